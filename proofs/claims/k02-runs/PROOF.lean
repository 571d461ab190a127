import PyProof.Rows.All
import Wide.All
import OpenK.AllK
import Wide.FinOn
import PyProof.EqAt
import PyProof.EqKinds
import PyProof.TupleCall
import HandS.ForMost
import HandS.ForExc
import HandS.TupAny
import HandS.TupMul
import HandS.Deep
import HandS.Property
import HandS.IsInst
import HandS.ExcOwn
import HandS.WordsExc
import HandS.HeadHook2
import HandS.HeadEnd
import HandS.Head2
import PyProof.InstNe
import HandS.Dict
import KE.GoesEnum
import KE.GoesMore
import HandS.Iter
import HandS.Comp
import HandS.Codes
import HandS.HeadHook4
import PySem.Challenge.RW_unlikeself_k02_whole_runs
section
set_option autoImplicit false
namespace Uk
/-! ## Data, heap, results -/
inductive D where
  | non | bl (b : Bool) | int (i : Int) | str (s : String) | tup (xs : List D) | ref (i : Nat) | fro (xs : List D)
  deriving Inhabited, Repr
inductive O where
  | lst (xs : List D) | dK (kvs : List (D × D)) | dT (kvs : List (D × D)) | ins (c : String) (fs : List (String × D))
  deriving Inhabited, Repr
abbrev G := List O
structure Exn where
  cls : String
  fs : List (String × D)
  deriving Inhabited, Repr
inductive R (α : Type) where
  | ok (a : α) (g : G) | exc (x : Exn) (g : G) | bad
  deriving Repr
def R.bind {α β : Type} (r : R α) (k : α → G → R β) : R β := match r with
  | .ok a g => k a g
  | .exc x g => .exc x g
  | .bad => .bad
def line : Nat := 16777216
mutual
/-- Python's == of data without references -/
def D.eqv : D → D → Bool
  | .non, .non => true
  | .bl a, .bl b => a == b
  | .bl a, .int j => (if a then 1 else 0) == j
  | .int i, .bl b => i == (if b then 1 else 0)
  | .int i, .int j => i == j
  | .str x, .str y => x == y
  | .tup xs, .tup ys => D.eqvs xs ys
  | _, _ => false
def D.eqvs : List D → List D → Bool
  | [], [] => true
  | x :: xs, y :: ys => D.eqv x y && D.eqvs xs ys
  | _, _ => false
end
mutual
/-- depth; a reference counts as too deep -/
def D.dep : D → Nat
  | .tup xs => D.deps xs + 1
  | .ref _ => 1000
  | .fro _ => 1000
  | _ => 0
def D.deps : List D → Nat
  | [] => 0
  | x :: xs => max x.dep (D.deps xs)
end
def D.ok (d : D) : Bool := decide (d.dep ≤ 60)
def oksB (ds : List D) : Bool := decide (D.deps ds ≤ 60)
/-! ## The syntax -/
inductive Bop where | add | sub | mul | fdiv | mod | pow
  deriving DecidableEq, Repr
inductive Cop where | eq | ne | lt | le | gt | ge | isn | notn | in_ | nin
  deriving DecidableEq, Repr
inductive Bi where | len | abs | int | list | tuple | all | any | max | min
  deriving DecidableEq, Repr
inductive Tg where | one (i : Nat) | many (l : List Nat)
  deriving DecidableEq, Repr
mutual
inductive E where
  | cst (d : D) | loc (i : Nat) | glo (x : String)
  | tup (es : Es) | lst (es : Es)
  | bin (o : Bop) (a b : E) | neg (a : E)
  | cmp (o : Cop) (a b : E) | chn (a : E) (o : Cop) (b : E) (p : Cop) (c : E)
  | and_ (a b : E) | or_ (a b : E) | not_ (a : E) | ite (c a b : E)
  | ix (a i : E) | cut (a lo hi : E) | rev (a : E)
  | att (a : E) (f : String)
  | call (f : String) (es : Es) | mk (c : String) (es : Es) | met (a : E) (m : String) (es : Es)
  | bi (f : Bi) (es : Es) | isi (a : E) (t : String)
  | comp (vs : List Nat) (elt : E) (tg : Tg) (it : It) (cond : E)
  | exf (f : String) | exi (c : String) | nope
  | dsp (t : Bool) (ps : Ps)
inductive Es where | n | c (e : E) (es : Es)
inductive It where | seq (e : E) | enum (e : E) | r1 (a : E) | r3 (a b c : E)
inductive Ps where | n | c (k v : E) (r : Ps)
end
mutual
inductive S where
  | asg (i : Nat) (e : E) | fld (o : E) (f : String) (e : E) | sub (o i e : E) | unp (l : List Nat) (e : E) | par (i j : Nat) (a b : E)
  | ife (c : E) (a b : Ss) | for_ (t : Tg) (it : It) (b : Ss) | while_ (c : E) (b : Ss)
  | ret (e : E) | retN | ex (e : E) | pass | rai (c : String) (es : Es) | try_ (i : Option Nat) (e : E) (hs : Hs)
inductive Ss where | n | c (s : S) (r : Ss)
inductive Hs where | n | c (cls : String) (i : Option Nat) (b : Ss) (r : Hs)
end
structure FDef where
  ps : List String
  N : List String
  body : Ss
/-! ## Operations on values -/
def newL (ds : List D) (g : G) : R D := if ds.length ≤ line then .ok (.ref g.length) (g ++ [.lst ds]) else .bad
def newT (ds : List D) (g : G) : R D := if ds.length ≤ line then .ok (.tup ds) g else .bad
def newS (s : String) (g : G) : R D := if s.length ≤ line then .ok (.str s) g else .bad
def O.seq : O → Option (List D)
  | .lst xs => some xs
  | _ => none
/-- a list's items -/
def lsOf (g : G) (i : Nat) : Option (List D) := (g[i]?).bind O.seq
def mulOk (i j : Int) : Bool := (decide (-(2 ^ 64) < i) && decide (i < 2 ^ 64)) || (decide (-(2 ^ 64) < j) && decide (j < 2 ^ 64))
def rep {α : Type} (xs : List α) : Nat → List α
  | 0 => []
  | n + 1 => xs ++ rep xs n
def binop (o : Bop) (x y : D) (g : G) : R D := match o, x, y with
  | .add, .int i, .int j => .ok (.int (i + j)) g
  | .add, .str a, .str b => newS (a ++ b) g
  | .add, .tup xs, .tup ys => newT (xs ++ ys) g
  | .add, .ref a, .ref b => match lsOf g a, lsOf g b with
    | some xs, some ys => newL (xs ++ ys) g
    | _, _ => .bad
  | .sub, .int i, .int j => .ok (.int (i - j)) g
  | .mul, .int i, .int j => if mulOk i j then .ok (.int (i * j)) g else .bad
  | .mul, .tup xs, .int j => if 2 ≤ j ∧ j ≤ 1000 ∧ 0 < xs.length ∧ xs.length ≤ 1000 then .ok (.tup (rep xs j.toNat)) g else .bad
  | .fdiv, .int i, .int j => if 0 < j ∧ j < 1073741824 then .ok (.int (i / j)) g else .bad
  | .mod, .int i, .int j => if 0 < j then .ok (.int (i % j)) g else .bad
  | .pow, .int i, .int j => if 0 ≤ j ∧ j ≤ 1000000 ∧ i.natAbs < 2 ^ 64 then .ok (.int (i ^ j.toNat)) g else .bad
  | _, _, _ => .bad
def eqLs (f : D → D → Option Bool) : List D → List D → Option Bool
  | [], [] => some true
  | x :: xs, y :: ys => match f x y, eqLs f xs ys with
    | some u, some v => some (u && v)
    | _, _ => none
  | _, _ => none
/-- == where both are data, or lists of data; none elsewhere -/
def eqF (g : G) : Nat → D → D → Option Bool
  | 0, _, _ => none
  | n + 1, x, y => match x, y with
    | .ref a, .ref b => match lsOf g a, lsOf g b with
      | some xs, some ys => if xs.length = ys.length then eqLs (eqF g n) xs ys else if oksB xs && oksB ys then some false else none
      | _, _ => none
    | .ref a, y => match lsOf g a with
      | some xs => if oksB xs && y.ok then some false else none
      | none => none
    | x, .ref b => match lsOf g b with
      | some ys => if oksB ys && x.ok then some false else none
      | none => none
    | x, y => if x.ok && y.ok then some (D.eqv x y) else none
def sIx (n : Nat) (i : Int) : Option Nat := if 0 ≤ i then (if i < n then some i.toNat else none) else if -(n : Int) ≤ i then some (i + n).toNat else none
def atI {α : Type} (xs : List α) (i : Int) : Option α := (sIx xs.length i).bind fun j => xs[j]?
/-- an end of a slice; d where none is written -/
def sIxE (n d : Nat) : Option Int → Nat
  | none => d
  | some i => if i < 0 then (i + n).toNat else min i.toNat n
def D.int? : D → Option Int
  | .int i => some i
  | _ => none
def cutL {α : Type} (xs : List α) (a b : Nat) : List α := (xs.drop a).take (b - a)
def lookD (k : D) : List (D × D) → Option D
  | [] => none
  | (a, v) :: r => if D.eqv a k then some v else lookD k r
def putD (k v : D) (kvs : List (D × D)) : List (D × D) := if kvs.any fun p => D.eqv p.1 k then kvs.map fun p => if D.eqv p.1 k then (p.1, v) else p else kvs ++ [(k, v)]
/-- keys and values by turns, as a dict -/
def mergeD (kvs : List (D × D)) : List D → Option (List (D × D))
  | [] => some kvs
  | [_] => none
  | k :: v :: r => mergeD (putD k v kvs) r
def D.keyK : D → Bool
  | .int _ => true
  | .str _ => true
  | _ => false
def keysK : List D → Bool
  | k :: _ :: r => k.keyK && keysK r
  | _ => true
def lookF (f : String) : List (String × D) → Option D
  | [] => none
  | (a, v) :: r => if a = f then some v else lookF f r
def putF (f : String) (v : D) : List (String × D) → List (String × D)
  | [] => [(f, v)]
  | (a, w) :: r => if a = f then (a, v) :: r else (a, w) :: putF f v r
def orElse {α : Type} (o : Option α) (k : α → R D) : R D := match o with
  | some a => k a
  | none => .bad
/-- no exception comes out -/
def noX {α : Type} (r : R α) : R α := match r with
  | .ok a g => .ok a g
  | _ => .bad
/-! ## The context of a run -/
structure Pg where
  fn : String → String → Option FDef
  con : String → Option D
  exn : String → Option (Option String)
  cls : String → Bool
  prop : String → String → Bool
  fld : String → String → Bool
  base : String → String → Bool
/-- the program, the calls of defs, those of defs one level below, the exception in hand -/
structure Cx where
  P : Pg
  call : String → String → List D → G → R D
  call1 : String → String → List D → G → R D
  cur : Option Exn
/-- isinstance against a built-in type; a reference has to be a list -/
def isType (g : G) (x : D) (t : String) : Option Bool := if ["int", "bool", "str", "tuple", "list", "dict"].contains t then match x with
    | .non => some false
    | .bl _ => some (t == "int" || t == "bool")
    | .int _ => some (t == "int")
    | .str _ => some (t == "str")
    | .tup _ => some (t == "tuple")
    | .fro _ => none
    | .ref i => match g[i]? with
      | some (.lst _) => some (t == "list")
      | _ => none
  else none
def isInst (c : Cx) (g : G) (x : D) (t : String) : Option Bool := if c.P.cls t then match x with
    | .ref i => match g[i]? with
      | some (.ins k _) => if c.P.cls k then some (k == t) else none
      | _ => none
    | _ => some false
  else isType g x t
/-- what an instance of k is compared with: data, a list, an instance of k -/
def eqRight (g : G) (k : String) (y : D) : Bool := match y with
  | .ref j => match g[j]? with
    | some (.lst _) => true
    | some (.ins k' _) => k' == k
    | _ => false
  | .fro _ => false
  | _ => true
/-- x != y is asked only of instances of one class, or of what are none -/
def neOk (g : G) (x y : D) : Bool := match x with
  | .ref i => match g[i]? with
    | some (.ins k _) => match y with
      | .ref j => match g[j]? with
        | some (.ins k' _) => k' == k
        | _ => false
      | _ => false
    | _ => true
  | _ => true
def eqOp (c : Cx) (x y : D) (g : G) : R Bool := match x with
  | .ref a => match g[a]? with
    | some (.ins k _) => if c.P.cls k && !c.P.prop k "__eq__" && eqRight g k y then (noX (c.call1 k "__eq__" [x, y] g)).bind fun d g => match d with
      | .bl b => .ok b g
      | _ => .bad
      else .bad
    | _ => match eqF g 4 x y with
      | some b => .ok b g
      | none => .bad
  | _ => match eqF g 4 x y with
    | some b => .ok b g
    | none => .bad
def inOp (x y : D) (g : G) : Option Bool := match y with
  | .tup ys => if x.ok && oksB ys then some (ys.any fun z => D.eqv z x) else none
  | .ref b => match g[b]? with
    | some (.lst ys) => if x.ok && oksB ys then some (ys.any fun z => D.eqv z x) else none
    | some (.dT kvs) => match x with
      | .tup _ => if x.ok then some (lookD x kvs).isSome else none
      | _ => none
    | some (.dK kvs) => match x with
      | .str _ => some (lookD x kvs).isSome
      | .int _ => some (lookD x kvs).isSome
      | _ => none
    | _ => none
  | _ => none
def ordI (f : Int → Int → Bool) (x y : D) (g : G) : R D := match x, y with
  | .int i, .int j => .ok (.bl (f i j)) g
  | _, _ => .bad
def D.isNon : D → Bool
  | .non => true
  | _ => false
def cmpop (c : Cx) (o : Cop) (x y : D) (g : G) : R D := match o with
  | .eq => (eqOp c x y g).bind fun b g => .ok (.bl b) g
  | .ne => if neOk g x y then (eqOp c x y g).bind fun b g => .ok (.bl (!b)) g else .bad
  | .lt => ordI (fun i j => decide (i < j)) x y g
  | .le => ordI (fun i j => decide (i ≤ j)) x y g
  | .gt => ordI (fun i j => decide (j < i)) x y g
  | .ge => ordI (fun i j => decide (j ≤ i)) x y g
  | .isn => .ok (.bl x.isNon) g
  | .notn => .ok (.bl (!x.isNon)) g
  | .in_ => orElse (inOp x y g) fun b => .ok (.bl b) g
  | .nin => orElse (inOp x y g) fun b => .ok (.bl (!b)) g
def getIx (x i : D) (g : G) : R D := match x, i with
  | .tup xs, .int k => orElse (atI xs k) fun v => .ok v g
  | .ref a, .int k => match g[a]? with
    | some (.lst xs) => orElse (atI xs k) fun v => .ok v g
    | some (.dK kvs) => orElse (lookD (.int k) kvs) fun v => .ok v g
    | _ => .bad
  | .ref a, .str s => match g[a]? with
    | some (.dK kvs) => orElse (lookD (.str s) kvs) fun v => .ok v g
    | _ => .bad
  | .ref a, .tup ks => match g[a]? with
    | some (.dT kvs) => if (D.tup ks).ok then orElse (lookD (.tup ks) kvs) fun v => .ok v g else .bad
    | _ => .bad
  | _, _ => .bad
def getCut (x : D) (lo hi : Option Int) (g : G) : R D := match x with
  | .tup xs => newT (cutL xs (sIxE xs.length 0 lo) (sIxE xs.length xs.length hi)) g
  | .ref r => match lsOf g r with
    | some xs => newL (cutL xs (sIxE xs.length 0 lo) (sIxE xs.length xs.length hi)) g
    | none => .bad
  | _ => .bad
def intsD : List D → Option (List Int)
  | [] => some []
  | .int i :: r => (intsD r).map (i :: ·)
  | _ :: _ => none
def bools : List D → Option (List Bool)
  | [] => some []
  | .bl b :: r => (bools r).map (b :: ·)
  | _ :: _ => none
def maxI : List Int → Int
  | [] => 0
  | [i] => i
  | i :: r => max i (maxI r)
def minI : List Int → Int
  | [] => 0
  | [i] => i
  | i :: r => min i (minI r)
def lenOf (c : Cx) (x : D) (g : G) : R D := match x with
  | .str s => if s.length ≤ line then .ok (.int s.length) g else .bad
  | .tup xs => .ok (.int xs.length) g
  | .ref a => match g[a]? with
    | some (.lst xs) => .ok (.int xs.length) g
    | some (.dK kvs) => .ok (.int kvs.length) g
    | some (.dT kvs) => .ok (.int kvs.length) g
    | some (.ins k _) => if c.P.cls k && !c.P.prop k "__len__" then (noX (c.call1 k "__len__" [x] g)).bind fun d g => match d with
      | .int n => if 0 ≤ n ∧ n ≤ line then .ok (.int n) g else .bad
      | _ => .bad
      else .bad
    | none => .bad
  | _ => .bad
def allD (ds : List D) (g : G) (f : List Bool → Bool) : R D := match ds with
  | [.ref a] => orElse ((lsOf g a).bind bools) fun bs => .ok (.bl (f bs)) g
  | _ => .bad
def extD (ds : List D) (g : G) (f : List Int → Int) : R D := match ds with
  | [.ref a] => orElse ((lsOf g a).bind intsD) fun is => if is.isEmpty then .bad else .ok (.int (f is)) g
  | _ => .bad
def builtin (c : Cx) (f : Bi) (ds : List D) (g : G) : R D := match f with
  | .len => match ds with
    | [x] => lenOf c x g
    | _ => .bad
  | .abs => match ds with
    | [.int i] => .ok (.int (if i < 0 then -i else i)) g
    | _ => .bad
  | .int => match ds with
    | [.int i] => .ok (.int i) g
    | [.bl b] => .ok (.int (if b then 1 else 0)) g
    | _ => .bad
  | .list => match ds with
    | [.tup xs] => newL xs g
    | [.ref a] => orElse (lsOf g a) fun xs => newL xs g
    | _ => .bad
  | .tuple => match ds with
    | [.tup xs] => .ok (.tup xs) g
    | [.ref a] => orElse (lsOf g a) fun xs => newT xs g
    | _ => .bad
  | .all => allD ds g fun bs => bs.all id
  | .any => allD ds g fun bs => bs.any id
  | .max => match ds with
    | [.int i, .int j] => .ok (.int (if j > i then j else i)) g
    | _ => extD ds g maxI
  | .min => extD ds g minI
/-- what kind of object a method is asked of: a list, an instance -/
inductive Kd where | lst | ins (k : String)
def kindOf (P : Pg) (x : D) (m : String) (g : G) : Option Kd := match x with
  | .ref a => match g[a]? with
    | some (.lst _) => some .lst
    | some (.ins k fs) => if (lookF m fs).isNone && P.cls k && !P.prop k m && (P.fn k m).isSome then some (.ins k) else none
    | _ => none
  | _ => none
inductive LM where | append | extend | pop
def LM.of (m : String) : Option LM := if m = "append" then some .append else if m = "extend" then some .extend else if m = "pop" then some .pop else none
def listM (x : D) (m : LM) (ds : List D) (g : G) : R D := match x with
  | .ref a => match g[a]? with
    | some (.lst xs) => match m, ds with
      | .append, [y] => if xs.length < line then .ok .non (g.set a (.lst (xs ++ [y]))) else .bad
      | .extend, [.ref b] => match g[b]? with
        | some (.lst ys) => if xs.length + ys.length ≤ line then .ok .non (g.set a (.lst (xs ++ ys))) else .bad
        | _ => .bad
      | .pop, [] => orElse (xs.getLast?) fun y => .ok y (g.set a (.lst xs.dropLast))
      | .pop, [.int i] => if 0 ≤ i ∧ i < 1073741824 then orElse (xs[i.toNat]?) fun y => .ok y (g.set a (.lst (xs.eraseIdx i.toNat))) else .bad
      | _, _ => .bad
    | _ => .bad
  | _ => .bad
def attr (c : Cx) (x : D) (f : String) (g : G) : R D := match x with
  | .ref a => match g[a]? with
    | some (.ins k fs) => if !c.P.cls k then .bad else if c.P.prop k f then noX (c.call1 k f [x] g) else if c.P.fld k f then orElse (lookF f fs) fun v => .ok v g else .bad
    | _ => .bad
  | _ => .bad
def make (c : Cx) (k : String) (ds : List D) (g : G) : R D := if c.P.cls k then
    (c.call1 k "__init__" (.ref g.length :: ds) (g ++ [.ins k []])).bind fun d g' => match d with
      | .non => .ok (.ref g.length) g'
      | _ => .bad
  else .bad
/-- a displayed dict; its object stands at a already -/
def mkD (a : Nat) (ds : List D) (g : G) : R D := match g[a]? with
  | some (.dK []) => if keysK ds = true ∧ ds.length ≤ 30 then orElse (mergeD [] ds) fun kvs => .ok (.ref a) (g.set a (.dK kvs)) else .bad
  | _ => .bad
/-! ## What is walked -/
inductive Wk where | seq (a : Nat) | tup (xs : List D) | fro (xs : List D) | eseq (a : Nat) | etup (xs : List D) | rng (lo step : Int)
/-- how many turns, and what is walked -/
def walkOf (x : D) (g : G) : Option (Nat × Wk) := match x with
  | .tup xs => some (xs.length, .tup xs)
  | .fro xs => some (xs.length, .fro xs)
  | .ref a => (lsOf g a).map fun xs => (xs.length, .seq a)
  | _ => none
def enumOf (x : D) (g : G) : Option (Nat × Wk) := match x with
  | .tup xs => some (xs.length, .etup xs)
  | .ref a => (lsOf g a).map fun xs => (xs.length, .eseq a)
  | _ => none
/-- the item of turn i: some none at the end -/
def Wk.item (w : Wk) (n i : Nat) (g : G) : Option (Option D) := match w with
  | .tup xs => some xs[i]?
  | .fro xs => some xs[i]?
  | .seq a => (lsOf g a).map fun xs => xs[i]?
  | .etup xs => some (xs[i]?.map fun x => .tup [.int i, x])
  | .eseq a => (lsOf g a).map fun xs => xs[i]?.map fun x => .tup [.int i, x]
  | .rng lo st => some (if i < n then some (.int (lo + st * i)) else none)
abbrev Env := List (Option D)
def setAll : Env → List Nat → List D → Option Env
  | δ, [], [] => some δ
  | δ, i :: is, d :: ds => setAll (δ.set i (some d)) is ds
  | _, _, _ => none
def bindT (t : Tg) (d : D) (δ : Env) : Option Env := match t with
  | .one i => some (δ.set i (some d))
  | .many l => match d with
    | .tup ds => setAll δ l ds
    | _ => none
def wipe (δ : Env) : List Nat → Env
  | [] => δ
  | v :: vs => (wipe δ vs).set v none
def rng1 (x : D) : Option (Nat × Wk) := match x with
  | .int n => if n.natAbs / 1073741824 = 0 then some (n.toNat, .rng 0 1) else none
  | _ => none
/-- range(a, b, -1) -/
def rng3 (x y z : D) : Option (Nat × Wk) := match x, y, z with
  | .int a, .int b, .int (-1) => if a.natAbs / 1073741824 = 0 ∧ b.natAbs / 1073741824 = 0 then some ((a - b).toNat, .rng a (-1)) else none
  | _, _, _ => none
/-- a comprehension's turns: n in all, k left; the list stands at p -/
def compL (w : Wk) (n : Nat) (p : Nat) (turn : D → G → R (Option D)) : Nat → Nat → G → R Unit
  | 0, i, g => match w.item n i g with
    | some none => .ok () g
    | _ => .bad
  | k + 1, i, g => match w.item n i g with
    | some (some x) => match turn x g with
      | .ok none g => compL w n p turn k (i + 1) g
      | .ok (some y) g => match g[p]? with
        | some (.lst acc) => if acc.length < line then compL w n p turn k (i + 1) (g.set p (.lst (acc ++ [y]))) else .bad
        | _ => .bad
      | _ => .bad
    | _ => .bad
/-! ## Expressions -/
def isnC (e : E) : Bool := match e with
  | .cst .non => true
  | _ => false
mutual
def ev (c : Cx) : E → Env → G → R D
  | .cst d, _, g => .ok d g
  | .loc i, δ, g => match δ[i]? with
    | some (some d) => .ok d g
    | _ => .bad
  | .glo x, _, g => match c.P.con x with
    | some d => .ok d g
    | none => .bad
  | .tup es, δ, g => (evs c es δ g).bind newT
  | .lst es, δ, g => (evs c es δ g).bind newL
  | .bin o a b, δ, g => (ev c a δ g).bind fun x g => (ev c b δ g).bind fun y g => binop o x y g
  | .neg a, δ, g => (ev c a δ g).bind fun x g => match x with
    | .int i => .ok (.int (-i)) g
    | _ => .bad
  | .cmp o a b, δ, g => (ev c a δ g).bind fun x g => (ev c b δ g).bind fun y g => cmpop c o x y g
  | .chn a o b p d, δ, g => (ev c a δ g).bind fun x g => (ev c b δ g).bind fun y g => (cmpop c o x y g).bind fun z g => match z with
    | .bl true => (ev c d δ g).bind fun w g => cmpop c p y w g
    | .bl false => .ok (.bl false) g
    | _ => .bad
  | .and_ a b, δ, g => (ev c a δ g).bind fun x g => match x with
    | .bl true => ev c b δ g
    | .bl false => .ok (.bl false) g
    | _ => .bad
  | .or_ a b, δ, g => (ev c a δ g).bind fun x g => match x with
    | .bl true => .ok (.bl true) g
    | .bl false => ev c b δ g
    | _ => .bad
  | .not_ a, δ, g => (ev c a δ g).bind fun x g => match x with
    | .bl b => .ok (.bl (!b)) g
    | _ => .bad
  | .ite t a b, δ, g => (ev c t δ g).bind fun x g => match x with
    | .bl true => ev c a δ g
    | .bl false => ev c b δ g
    | _ => .bad
  | .ix a i, δ, g => (ev c a δ g).bind fun x g => (ev c i δ g).bind fun y g => getIx x y g
  | .cut a lo hi, δ, g => (ev c a δ g).bind fun x g => match isnC lo, isnC hi with
    | true, true => getCut x none none g
    | true, false => (ev c hi δ g).bind fun h g => orElse h.int? fun h => getCut x none (some h) g
    | false, true => (ev c lo δ g).bind fun l g => orElse l.int? fun l => getCut x (some l) none g
    | false, false => (ev c lo δ g).bind fun l g => orElse l.int? fun l => (ev c hi δ g).bind fun h g => orElse h.int? fun h => getCut x (some l) (some h) g
  | .rev _, _, _ => .bad
  | .att a f, δ, g => (ev c a δ g).bind fun x g => attr c x f g
  | .call f es, δ, g => (evs c es δ g).bind fun ds g => c.call "" f ds g
  | .mk k es, δ, g => (evs c es δ g).bind fun ds g => make c k ds g
  | .met a m es, δ, g => (ev c a δ g).bind fun x g => match kindOf c.P x m g with
    | some .lst => orElse (LM.of m) fun q => (evs c es δ g).bind fun ds g => listM x q ds g
    | some (.ins k) => (evs c es δ g).bind fun ds g => c.call k m (x :: ds) g
    | none => .bad
  | .bi f es, δ, g => (evs c es δ g).bind fun ds g => builtin c f ds g
  | .isi a t, δ, g => (ev c a δ g).bind fun x g => orElse (isInst c g x t) fun b => .ok (.bl b) g
  | .comp vs elt tg it cond, δ, g => (evI c it δ g).bind fun w g =>
    (compL w.2 w.1 g.length (fun x g => match bindT tg x (wipe δ vs) with
      | none => .bad
      | some δ => (ev c cond δ g).bind fun t g => match t with
        | .bl true => (ev c elt δ g).bind fun y g => .ok (some y) g
        | .bl false => .ok none g
        | _ => .bad) w.1 0 (g ++ [.lst []])).bind fun _ g' => .ok (.ref g.length) g'
  | .nope, _, _ => .bad
  | .dsp t ps, δ, g => (evP c ps δ (g ++ [if t then .dT [] else .dK []])).bind fun ds g' => mkD g.length ds g'
  | .exf f, _, g => match c.cur with
    | some x => orElse (lookF f x.fs) fun v => .ok v g
    | none => .bad
  | .exi k, _, g => match c.cur with
    | some x => .ok (.bl (c.P.base x.cls k)) g
    | none => .bad
def evs (c : Cx) : Es → Env → G → R (List D)
  | .n, _, g => .ok [] g
  | .c e es, δ, g => (ev c e δ g).bind fun x g => (evs c es δ g).bind fun xs g => .ok (x :: xs) g
def evP (c : Cx) : Ps → Env → G → R (List D)
  | .n, _, g => .ok [] g
  | .c k v r, δ, g => (ev c k δ g).bind fun x g => (ev c v δ g).bind fun y g => (evP c r δ g).bind fun xs g => .ok (x :: y :: xs) g
def evI (c : Cx) : It → Env → G → R (Nat × Wk)
  | .seq e, δ, g => (ev c e δ g).bind fun x g => match walkOf x g with
    | some w => .ok w g
    | none => .bad
  | .enum e, δ, g => (ev c e δ g).bind fun x g => match enumOf x g with
    | some w => .ok w g
    | none => .bad
  | .r1 e, δ, g => (ev c e δ g).bind fun x g => match rng1 x with
    | some w => .ok w g
    | none => .bad
  | .r3 a b d, δ, g => (ev c a δ g).bind fun x g => (ev c b δ g).bind fun y g => (ev c d δ g).bind fun z g => match rng3 x y z with
    | some w => .ok w g
    | none => .bad
end
/-! ## Statements -/
inductive Fl where | nx | rt (d : D)
  deriving Repr
abbrev RS := R (Env × Fl)
/-- a for's turns: n in all, k left -/
def forL (w : Wk) (n : Nat) (t : Tg) (body : Env → G → RS) : Nat → Nat → Env → G → RS
  | 0, i, δ, g => match w.item n i g with
    | some none => .ok (δ, .nx) g
    | _ => .bad
  | k + 1, i, δ, g => match w.item n i g with
    | some (some x) => match bindT t x δ with
      | none => .bad
      | some δ => (body δ g).bind fun z g => match z with
        | (δ, .nx) => forL w n t body k (i + 1) δ g
        | z => .ok z g
    | _ => .bad
def whileL (test : Env → G → R D) (body : Env → G → RS) : Nat → Env → G → RS
  | 0, _, _ => .bad
  | k + 1, δ, g => (test δ g).bind fun x g => match x with
    | .bl false => .ok (δ, .nx) g
    | .bl true => (body δ g).bind fun z g => match z with
      | (δ, .nx) => whileL test body k δ g
      | z => .ok z g
    | _ => .bad
def most : Nat := 2 ^ 64
def setSub (o i v : D) (g : G) : R Unit := match o with
  | .ref a => match g[a]? with
    | some (.lst xs) => match i with
      | .int k => match sIx xs.length k with
        | some j => .ok () (g.set a (.lst (xs.set j v)))
        | none => .bad
      | _ => .bad
    | some (.dK kvs) => match i with
      | .int k => if kvs.length < line then .ok () (g.set a (.dK (putD (.int k) v kvs))) else .bad
      | .str s => if kvs.length < line then .ok () (g.set a (.dK (putD (.str s) v kvs))) else .bad
      | _ => .bad
    | some (.dT kvs) => match i with
      | .tup ks => if (D.tup ks).ok && decide (kvs.length < line) then .ok () (g.set a (.dT (putD (.tup ks) v kvs))) else .bad
      | _ => .bad
    | _ => .bad
  | _ => .bad
def setFld (P : Pg) (o : D) (f : String) (v : D) (g : G) : R Unit := match o with
  | .ref a => match g[a]? with
    | some (.ins k fs) => if fs.length < 1000 ∧ P.cls k = true ∧ P.fld k f = true then .ok () (g.set a (.ins k (putF f v fs))) else .bad
    | _ => .bad
  | _ => .bad
def setO (i : Option Nat) (x : D) (δ : Env) : Env := match i with
  | some i => δ.set i (some x)
  | none => δ
def unO (i : Option Nat) (δ : Env) : Env := match i with
  | some i => δ.set i none
  | none => δ
mutual
def exe (c : Cx) : S → Env → G → RS
  | .asg i e, δ, g => (ev c e δ g).bind fun x g => .ok (δ.set i (some x), .nx) g
  | .fld o f e, δ, g => (ev c e δ g).bind fun x g => (ev c o δ g).bind fun y g => (setFld c.P y f x g).bind fun _ g => .ok (δ, .nx) g
  | .sub o i e, δ, g => (ev c e δ g).bind fun x g => (ev c o δ g).bind fun y g => (ev c i δ g).bind fun z g => (setSub y z x g).bind fun _ g => .ok (δ, .nx) g
  | .unp l e, δ, g => (ev c e δ g).bind fun x g => match x with
    | .tup ds => match setAll δ l ds with
      | some δ => .ok (δ, .nx) g
      | none => .bad
    | _ => .bad
  | .par i j a b, δ, g => (ev c a δ g).bind fun x g => (ev c b δ g).bind fun y g => .ok ((δ.set i (some x)).set j (some y), .nx) g
  | .ife t a b, δ, g => (ev c t δ g).bind fun x g => match x with
    | .bl true => exs c a δ g
    | .bl false => exs c b δ g
    | _ => .bad
  | .for_ t it b, δ, g => (evI c it δ g).bind fun w g => forL w.2 w.1 t (exs c b) w.1 0 δ g
  | .while_ t b, δ, g => whileL (ev c t) (exs c b) most δ g
  | .ret e, δ, g => (ev c e δ g).bind fun x g => .ok (δ, .rt x) g
  | .retN, δ, g => .ok (δ, .rt .non) g
  | .ex e, δ, g => (ev c e δ g).bind fun _ g => .ok (δ, .nx) g
  | .pass, δ, g => .ok (δ, .nx) g
  | .rai k es, δ, g => (evs c es δ g).bind fun ds g => match c.P.exn k, ds with
    | some none, [] => .exc ⟨k, []⟩ g
    | some (some f), [d] => .exc ⟨k, [(f, d)]⟩ g
    | _, _ => .bad
  | .try_ i e hs, δ, g => match ev c e δ g with
    | .ok x g => .ok (setO i x δ, .nx) g
    | .exc x g => exh c x hs δ g
    | .bad => .bad
def exs (c : Cx) : Ss → Env → G → RS
  | .n, δ, g => .ok (δ, .nx) g
  | .c s r, δ, g => (exe c s δ g).bind fun z g => match z with
    | (δ, .nx) => exs c r δ g
    | z => .ok z g
/-- the clauses for an exception -/
def exh (c : Cx) (x : Exn) : Hs → Env → G → RS
  | .n, _, g => .exc x g
  | .c k i b r, δ, g => if (c.P.exn x.cls).isNone then .bad else if x.cls = k then (exs { c with cur := some x } b (unO i δ) g).bind fun z g => .ok (unO i z.1, z.2) g
    else exh c x r δ g
end
def runF (c : Cx) (fd : FDef) (args : List D) (g : G) : R D :=
  if args.length = fd.ps.length then
    (exs c fd.body (args.map some ++ List.replicate (fd.N.length - args.length) none) g).bind fun z g => match z.2 with
      | .nx => .ok .non g
      | .rt d => .ok d g
  else .bad
/-- the program's defs, run n calls deep: class ("" for none), name, arguments -/
def call (P : Pg) : Nat → String → String → List D → G → R D
  | 0, _, _, _, _ => .bad
  | 1, k, f, args, g => match P.fn k f with
    | some fd => runF ⟨P, fun _ _ _ _ => .bad, fun _ _ _ _ => .bad, none⟩ fd args g
    | none => .bad
  | n + 2, k, f, args, g => match P.fn k f with
    | some fd => runF ⟨P, call P (n + 1), call P n, none⟩ fd args g
    | none => .bad
end Uk
end
section
set_option Elab.async false
set_option linter.all false
set_option maxRecDepth 100000
set_option autoImplicit false
namespace Uk
open PySem PySem.Spec PyProof.Rows L2
/-! ## Texts -/
abbrev sS (s : String) : Str := Str.ofString s
theorem sS_cps (s : String) : (sS s).cps.toList = s.toList.map Char.toNat := by
  show (Str.ofString s).cps.toList = _
  rw [Str.ofString_eq_toList]
theorem toNat_inj : ∀ {a b : Char}, a.toNat = b.toNat → a = b := fun {a b} h => Char.ext (UInt32.toNat_inj.mp h)
theorem map_inj {α β : Type} {f : α → β} (hf : ∀ {a b}, f a = f b → a = b) : ∀ {l m : List α}, l.map f = m.map f → l = m
  | [], [], _ => rfl
  | [], _ :: _, h => by cases h
  | _ :: _, [], h => by cases h
  | a :: l, b :: m, h => by
    simp only [List.map_cons, List.cons.injEq] at h
    rw [hf h.1, map_inj hf h.2]
theorem sS_inj {a b : String} (h : sS a = sS b) : a = b := by
  have e : a.toList.map Char.toNat = b.toList.map Char.toNat := by rw [← sS_cps, ← sS_cps, h]
  have e2 : a.toList = b.toList := map_inj toNat_inj e
  exact String.toList_inj.mp e2
theorem sS_iff {a b : String} : sS a = sS b ↔ a = b := ⟨sS_inj, fun h => by rw [h]⟩
theorem Str_ext {x y : Str} (h : x.cps.toList = y.cps.toList) : x = y := by
  cases x with
  | mk a =>
    cases y with
    | mk b =>
      have e : a = b := Array.toList_inj.mp h
      rw [e]
theorem sS_app (a b : String) : sS (a ++ b) = sS a ++ sS b := by
  refine Str_ext ?_
  show (sS (a ++ b)).cps.toList = ((sS a).cps ++ (sS b).cps).toList
  rw [Array.toList_append, sS_cps, sS_cps, sS_cps, String.toList_append, List.map_append]
theorem sS_len (a : String) : (sS a).length = a.length := by
  show (sS a).cps.size = a.length
  rw [← Array.length_toList, sS_cps, List.length_map, String.length_toList]
/-! ## What an abstract value is in the heap -/
/-- a list that nobody writes -/
def FrL (K : PySem.W.Frag) (H : Hp) (a : Addr) (xs : List V) : Prop := (∃ o, H a = some (.frz o (.lst xs))) ∨
  ∃ (o : Obj) (its : Array Value) (n : Nat), K.lookup a = some o ∧ o.cls = .type "list" ∧ o.dict = none ∧ o.data = .seq its n ∧ its.size ≤ sizeLine ∧ Vals xs its.toList
theorem FrL.sq {K : PySem.W.Frag} {H : Hp} {a : Addr} {xs : List V} (h : FrL K H a xs) : SqL K H a xs := by
  rcases h with ⟨o, h⟩ | h
  · exact .inl (.inr ⟨o, h⟩)
  · exact .inr h
/-- what never changes: tuples, and what is frozen -/
def Kept (H H' : Hp) : Prop := (∀ b xs, H b = some (.tup xs) → H' b = some (.tup xs)) ∧ (∀ b o u, H b = some (.frz o u) → H' b = some (.frz o u)) ∧ ∀ b ps, H b = some (.xd ps) → H' b = some (.xd ps)
theorem Kept.refl (H : Hp) : Kept H H := ⟨fun _ _ h => h, fun _ _ _ h => h, fun _ _ h => h⟩
theorem Kept.trans {H H1 H2 : Hp} (a : Kept H H1) (b : Kept H1 H2) : Kept H H2 := ⟨fun c xs h => b.1 c xs (a.1 c xs h), fun c o u h => b.2.1 c o u (a.2.1 c o u h), fun c ps h => b.2.2 c ps (a.2.2 c ps h)⟩
theorem Kept.new {H : Hp} {p : Addr} {o : HO} (h : H p = none) : Kept H (upd H p o) := ⟨fun b xs e => by rw [upd_ne (ne_of_none e h)]; exact e, fun b o u e => by rw [upd_ne (ne_of_none e h)]; exact e, fun b ps e => by rw [upd_ne (ne_of_none e h)]; exact e⟩
theorem Kept.sqT {K : PySem.W.Frag} {H H' : Hp} (k : Kept H H') {a : Addr} {xs : List V} (h : SqT K H a xs) : SqT K H' a xs := by
  rcases h with (h | ⟨o, h⟩) | h
  · exact .inl (.inl (k.1 _ _ h))
  · exact .inl (.inr ⟨o, k.2.1 _ _ _ h⟩)
  · exact .inr h
theorem Kept.frL {K : PySem.W.Frag} {H H' : Hp} (k : Kept H H') {a : Addr} {xs : List V} (h : FrL K H a xs) : FrL K H' a xs := by
  rcases h with ⟨o, h⟩ | h
  · exact .inl ⟨o, k.2.1 _ _ _ h⟩
  · exact .inr h
mutual
/-- d stands as v; r: where the references stand -/
def VR (K : PySem.W.Frag) (r : List Addr) (H : Hp) : D → V → Prop
  | .non, v => v = .non
  | .bl b, v => v = .bl b
  | .int i, v => v = .int i
  | .str s, v => v = .str (sS s)
  | .tup xs, v => ∃ a vs, v = .ref a ∧ SqT K H a vs ∧ VRs K r H xs vs
  | .ref i, v => ∃ a, r[i]? = some a ∧ v = .ref a
  | .fro xs, v => ∃ a vs, v = .ref a ∧ FrL K H a vs ∧ VRs K r H xs vs
def VRs (K : PySem.W.Frag) (r : List Addr) (H : Hp) : List D → List V → Prop
  | [], vs => vs = []
  | x :: xs, vs => ∃ v q, vs = v :: q ∧ VR K r H x v ∧ VRs K r H xs q
end
/-- the state goes on -/
structure Ext (r : List Addr) (H : Hp) (r' : List Addr) (H' : Hp) : Prop where
  pre : ∃ t, r' = r ++ t
  kept : Kept H H'
theorem Ext.refl (r : List Addr) (H : Hp) : Ext r H r H := ⟨⟨[], by simp⟩, .refl H⟩
theorem Ext.trans {r r1 r2 : List Addr} {H H1 H2 : Hp} (a : Ext r H r1 H1) (b : Ext r1 H1 r2 H2) : Ext r H r2 H2 := by
  obtain ⟨⟨t, e⟩, k⟩ := a
  obtain ⟨⟨u, e2⟩, k2⟩ := b
  exact ⟨⟨t ++ u, by rw [e2, e, List.append_assoc]⟩, k.trans k2⟩
theorem Ext.get {r r1 : List Addr} {H H1 : Hp} (x : Ext r H r1 H1) {i : Nat} {a : Addr} (h : r[i]? = some a) : r1[i]? = some a := by
  obtain ⟨t, e⟩ := x.pre
  rw [e, List.getElem?_append_left (List.getElem?_eq_some_iff.mp h).1]
  exact h
section
variable {K : PySem.W.Frag} {r r1 : List Addr} {H H1 : Hp}
mutual
theorem VR.mono (x : Ext r H r1 H1) : ∀ (d : D) (v : V), VR K r H d v → VR K r1 H1 d v
  | .non, _, h => by unfold VR at h ⊢; exact h
  | .bl _, _, h => by unfold VR at h ⊢; exact h
  | .int _, _, h => by unfold VR at h ⊢; exact h
  | .str _, _, h => by unfold VR at h ⊢; exact h
  | .tup xs, v, h => by
    unfold VR at h ⊢
    obtain ⟨a, vs, e, h1, h2⟩ := h
    exact ⟨a, vs, e, x.kept.sqT h1, VRs.mono x xs vs h2⟩
  | .ref i, v, h => by
    unfold VR at h ⊢
    obtain ⟨a, h1, e⟩ := h
    exact ⟨a, x.get h1, e⟩
  | .fro xs, v, h => by
    unfold VR at h ⊢
    obtain ⟨a, vs, e, h1, h2⟩ := h
    exact ⟨a, vs, e, x.kept.frL h1, VRs.mono x xs vs h2⟩
theorem VRs.mono (x : Ext r H r1 H1) : ∀ (ds : List D) (vs : List V), VRs K r H ds vs → VRs K r1 H1 ds vs
  | [], _, h => by unfold VRs at h ⊢; exact h
  | d :: ds, vs, h => by
    unfold VRs at h ⊢
    obtain ⟨v, q, e, h1, h2⟩ := h
    exact ⟨v, q, e, VR.mono x d v h1, VRs.mono x ds q h2⟩
end
theorem VRs.nil_iff {vs : List V} : VRs K r H [] vs ↔ vs = [] := by unfold VRs; exact Iff.rfl
theorem VRs.cons {d : D} {ds : List D} {v : V} {vs : List V} (h : VR K r H d v) (h2 : VRs K r H ds vs) : VRs K r H (d :: ds) (v :: vs) := by
  unfold VRs
  exact ⟨v, vs, rfl, h, h2⟩
theorem VRs.inv {d : D} {ds : List D} {vs : List V} (h : VRs K r H (d :: ds) vs) : ∃ v q, vs = v :: q ∧ VR K r H d v ∧ VRs K r H ds q := by
  unfold VRs at h
  exact h
theorem VRs.length : ∀ {ds : List D} {vs : List V}, VRs K r H ds vs → vs.length = ds.length
  | [], vs, h => by rw [VRs.nil_iff.mp h]; rfl
  | d :: ds, vs, h => by
    obtain ⟨v, q, rfl, _, h2⟩ := h.inv
    simp [VRs.length h2]
theorem VRs.get : ∀ {ds : List D} {vs : List V} {i : Nat} {d : D}, VRs K r H ds vs → ds[i]? = some d → ∃ v, vs[i]? = some v ∧ VR K r H d v
  | [], _, _, _, _, e => by simp at e
  | x :: ds, vs, 0, d, h, e => by
    obtain ⟨v, q, rfl, h1, h2⟩ := h.inv
    simp at e
    subst e
    exact ⟨v, rfl, h1⟩
  | x :: ds, vs, i + 1, d, h, e => by
    obtain ⟨v, q, rfl, h1, h2⟩ := h.inv
    simp at e
    obtain ⟨w, e1, e2⟩ := VRs.get h2 e
    exact ⟨w, by simpa using e1, e2⟩
theorem VRs.append : ∀ {ds es : List D} {vs ws : List V}, VRs K r H ds vs → VRs K r H es ws → VRs K r H (ds ++ es) (vs ++ ws)
  | [], es, vs, ws, h, h2 => by rw [VRs.nil_iff.mp h]; exact h2
  | d :: ds, es, vs, ws, h, h2 => by
    obtain ⟨v, q, rfl, h3, h4⟩ := h.inv
    exact .cons h3 (VRs.append h4 h2)
theorem VRs.take : ∀ {ds : List D} {vs : List V} (n : Nat), VRs K r H ds vs → VRs K r H (ds.take n) (vs.take n)
  | _, _, 0, _ => by simp [VRs.nil_iff]
  | [], vs, n + 1, h => by rw [VRs.nil_iff.mp h]; simp [VRs.nil_iff]
  | d :: ds, vs, n + 1, h => by
    obtain ⟨v, q, rfl, h3, h4⟩ := h.inv
    exact .cons h3 (VRs.take n h4)
theorem VRs.drop : ∀ {ds : List D} {vs : List V} (n : Nat), VRs K r H ds vs → VRs K r H (ds.drop n) (vs.drop n)
  | _, _, 0, h => h
  | [], vs, n + 1, h => by rw [VRs.nil_iff.mp h]; simp [VRs.nil_iff]
  | d :: ds, vs, n + 1, h => by
    obtain ⟨v, q, rfl, h3, h4⟩ := h.inv
    exact VRs.drop n h4
theorem VRs.set : ∀ {ds : List D} {vs : List V} (i : Nat) {d : D} {v : V}, VRs K r H ds vs → VR K r H d v → VRs K r H (ds.set i d) (vs.set i v)
  | [], vs, i, d, v, h, _ => by rw [VRs.nil_iff.mp h]; simp [VRs.nil_iff]
  | x :: ds, vs, 0, d, v, h, h2 => by
    obtain ⟨w, q, rfl, h3, h4⟩ := h.inv
    exact .cons h2 h4
  | x :: ds, vs, i + 1, d, v, h, h2 => by
    obtain ⟨w, q, rfl, h3, h4⟩ := h.inv
    exact .cons h3 (VRs.set i h4 h2)
theorem VRs.erase : ∀ {ds : List D} {vs : List V} (i : Nat), VRs K r H ds vs → VRs K r H (ds.eraseIdx i) (vs.eraseIdx i)
  | [], vs, i, h => by rw [VRs.nil_iff.mp h]; simp [VRs.nil_iff]
  | x :: ds, vs, 0, h => by
    obtain ⟨w, q, rfl, h3, h4⟩ := h.inv
    exact h4
  | x :: ds, vs, i + 1, h => by
    obtain ⟨w, q, rfl, h3, h4⟩ := h.inv
    exact .cons h3 (VRs.erase i h4)
theorem VR.tup {ds : List D} {vs : List V} {a : Addr} (h : SqT K H a vs) (h2 : VRs K r H ds vs) : VR K r H (.tup ds) (.ref a) := by
  unfold VR
  exact ⟨a, vs, rfl, h, h2⟩
theorem VR.tup_inv {ds : List D} {v : V} (h : VR K r H (.tup ds) v) : ∃ a vs, v = .ref a ∧ SqT K H a vs ∧ VRs K r H ds vs := by
  unfold VR at h
  exact h
theorem VR.fro_inv {ds : List D} {v : V} (h : VR K r H (.fro ds) v) : ∃ a vs, v = .ref a ∧ FrL K H a vs ∧ VRs K r H ds vs := by
  unfold VR at h
  exact h
theorem VR.ref {i : Nat} {a : Addr} (h : r[i]? = some a) : VR K r H (.ref i) (.ref a) := by
  unfold VR
  exact ⟨a, h, rfl⟩
theorem VR.ref_inv {i : Nat} {v : V} (h : VR K r H (.ref i) v) : ∃ a, r[i]? = some a ∧ v = .ref a := by
  unfold VR at h
  exact h
theorem VR.int {i : Int} : VR K r H (.int i) (.int i) := by unfold VR; rfl
theorem VR.bl {i : Bool} : VR K r H (.bl i) (.bl i) := by unfold VR; rfl
theorem VR.str {s : String} : VR K r H (.str s) (.str (sS s)) := by unfold VR; rfl
theorem VR.non : VR K r H .non .non := by unfold VR; rfl
theorem VR.int_inv {i : Int} {v : V} (h : VR K r H (.int i) v) : v = .int i := by unfold VR at h; exact h
theorem VR.bl_inv {i : Bool} {v : V} (h : VR K r H (.bl i) v) : v = .bl i := by unfold VR at h; exact h
theorem VR.str_inv {i : String} {v : V} (h : VR K r H (.str i) v) : v = .str (sS i) := by unfold VR at h; exact h
theorem VR.non_inv {v : V} (h : VR K r H .non v) : v = .non := by unfold VR at h; exact h
end
/-- the pairs of a dict -/
def PRs (K : PySem.W.Frag) (r : List Addr) (H : Hp) : List (D × D) → List (Key × V) → Prop := Paired fun p q => VR K r H p.1 (kV q.1) ∧ VR K r H p.2 q.2
/-- the fields of an instance -/
def FRs (K : PySem.W.Frag) (r : List Addr) (H : Hp) : List (String × D) → List (Str × V) → Prop := Paired fun p q => q.1 = sS p.1 ∧ VR K r H p.2 q.2
/-- what stands at a -/
def OR (K : PySem.W.Frag) (mg : Str → Option Value) (r : List Addr) (H : Hp) (a : Addr) : O → Prop
  | .lst xs => ∃ vs, H a = some (.lst vs) ∧ VRs K r H xs vs
  | .dK kvs => ∃ ps, H a = some (.dK ps) ∧ PRs K r H kvs ps
  | .dT _ => False
  | .ins c fs => ∃ C dx ps, mg (sS c) = some (.ref C) ∧ H a = some (.ins C dx ps) ∧ FRs K r H fs ps
/-- the abstract heap is held; r: where its objects stand -/
structure Rel (K : PySem.W.Frag) (mg : Str → Option Value) (r : List Addr) (g : G) (H : Hp) : Prop where
  len : r.length = g.length
  nd : r.Nodup
  at_ : ∀ (i : Nat) (a : Addr) (o : O), r[i]? = some a → g[i]? = some o → OR K mg r H a o
section
variable {K : PySem.W.Frag} {mg : Str → Option Value} {r r1 : List Addr} {H H1 : Hp} {g : G} {a : Addr} {o : O}
theorem PRs.mono (x : Ext r H r1 H1) {kvs : List (D × D)} {ps : List (Key × V)} (h : PRs K r H kvs ps) : PRs K r1 H1 kvs ps := L2.Paired.mapP h fun _ _ q => ⟨VR.mono x _ _ q.1, VR.mono x _ _ q.2⟩
theorem FRs.mono (x : Ext r H r1 H1) {kvs : List (String × D)} {ps : List (Str × V)} (h : FRs K r H kvs ps) : FRs K r1 H1 kvs ps := L2.Paired.mapP h fun _ _ q => ⟨q.1, VR.mono x _ _ q.2⟩
theorem OR.mono (x : Ext r H r1 H1) (e : H1 a = H a) (h : OR K mg r H a o) : OR K mg r1 H1 a o := by
  cases o with
  | lst xs =>
    obtain ⟨vs, h1, h2⟩ := h
    exact ⟨vs, e.trans h1, VRs.mono x _ _ h2⟩
  | dK kvs =>
    obtain ⟨ps, h1, h2⟩ := h
    exact ⟨ps, e.trans h1, h2.mono x⟩
  | dT kvs => exact h.elim
  | ins c fs =>
    obtain ⟨C, dx, ps, h0, h1, h2⟩ := h
    exact ⟨C, dx, ps, h0, e.trans h1, h2.mono x⟩
theorem OR.some (h : OR K mg r H a o) : H a ≠ none := by
  cases o with
  | lst xs => obtain ⟨vs, h1, h2⟩ := h; rw [h1]; exact fun z => by cases z
  | dK kvs => obtain ⟨ps, h1, h2⟩ := h; rw [h1]; exact fun z => by cases z
  | dT kvs => exact h.elim
  | ins c fs => obtain ⟨C, dx, ps, h0, h1, h2⟩ := h; rw [h1]; exact fun z => by cases z
theorem Rel.get (R : Rel K mg r g H) {i : Nat} (h : r[i]? = some a) : ∃ o, g[i]? = some o ∧ OR K mg r H a o := by
  have hi : i < g.length := by rw [← R.len]; exact (List.getElem?_eq_some_iff.mp h).1
  exact ⟨g[i], List.getElem?_eq_getElem hi, R.at_ i a _ h (List.getElem?_eq_getElem hi)⟩
theorem Rel.addr (R : Rel K mg r g H) {i : Nat} (h : g[i]? = some o) : ∃ a, r[i]? = some a ∧ OR K mg r H a o := by
  have hi : i < r.length := by rw [R.len]; exact (List.getElem?_eq_some_iff.mp h).1
  exact ⟨r[i], List.getElem?_eq_getElem hi, R.at_ i _ o (List.getElem?_eq_getElem hi) h⟩
theorem Rel.tracked (R : Rel K mg r g H) (h : a ∈ r) : H a ≠ none := by
  obtain ⟨i, hi, e⟩ := List.mem_iff_getElem.mp h
  obtain ⟨o, _, ho⟩ := R.get (a := a) (i := i) (by rw [List.getElem?_eq_getElem hi, e])
  exact ho.some
theorem Rel.fresh (R : Rel K mg r g H) (h : H a = none) : a ∉ r := fun z => R.tracked z h
/-- something new beside what is held (a tuple, a dict of an error) -/
theorem Rel.beside (R : Rel K mg r g H) {p : Addr} {ho : HO} (h : H p = none) : Rel K mg r g (upd H p ho) := by
  refine ⟨R.len, R.nd, fun i b o e1 e2 => (R.at_ i b o e1 e2).mono ⟨⟨[], by simp⟩, .new h⟩ ?_⟩
  exact upd_ne fun z => R.fresh h (z ▸ List.mem_of_getElem? e1)
theorem Ext.new {p : Addr} {ho : HO} (h : H p = none) : Ext r H r (upd H p ho) := ⟨⟨[], by simp⟩, .new h⟩
theorem Ext.newR {p : Addr} {ho : HO} (h : H p = none) : Ext r H (r ++ [p]) (upd H p ho) := ⟨⟨[p], rfl⟩, .new h⟩
theorem get_last {α : Type} {l : List α} {x : α} : (l ++ [x])[l.length]? = some x := by simp
/-- a new object -/
theorem Rel.new (R : Rel K mg r g H) {p : Addr} {ho : HO} (h : H p = none) (n : OR K mg (r ++ [p]) (upd H p ho) p o) : Rel K mg (r ++ [p]) (g ++ [o]) (upd H p ho) := by
  refine ⟨by simp [R.len], ?_, fun i b u e1 e2 => ?_⟩
  · rw [List.nodup_append]
    exact ⟨R.nd, by simp, fun a ha b hb z => R.fresh h (by simp at hb; rw [← hb, ← z]; exact ha)⟩
  · by_cases hi : i < r.length
    · rw [List.getElem?_append_left hi] at e1
      rw [List.getElem?_append_left (by rw [← R.len]; exact hi)] at e2
      exact (R.at_ i b u e1 e2).mono (.newR h) (upd_ne fun z => R.fresh h (z ▸ List.mem_of_getElem? e1))
    · have hi2 : i = r.length := by
        have := (List.getElem?_eq_some_iff.mp e1).1
        simp at this
        omega
      subst hi2
      rw [get_last] at e1
      rw [R.len, get_last] at e2
      cases e1
      cases e2
      exact n
/-- what may be written over -/
def Wr : HO → Prop
  | .tup _ => False
  | .frz _ _ => False
  | .xd _ => False
  | _ => True
theorem Kept.put {ho ho' : HO} (h : H a = some ho) (w : Wr ho) : Kept H (upd H a ho') := by
  refine ⟨fun b xs e => ?_, fun b o u e => ?_, fun b ps e => ?_⟩
  · rw [upd_ne fun z => by subst z; rw [h] at e; cases e; exact w]
    exact e
  · rw [upd_ne fun z => by subst z; rw [h] at e; cases e; exact w]
    exact e
  · rw [upd_ne fun z => by subst z; rw [h] at e; cases e; exact w]
    exact e
/-- an object is changed -/
theorem Rel.put (R : Rel K mg r g H) {i : Nat} {o' : O} {ho ho' : HO} (hi : r[i]? = some a) (h : H a = some ho) (w : Wr ho) (n : OR K mg r (upd H a ho') a o') : Rel K mg r (g.set i o') (upd H a ho') := by
  refine ⟨by simp [R.len], R.nd, fun j b u e1 e2 => ?_⟩
  have il : i < r.length := (List.getElem?_eq_some_iff.mp hi).1
  by_cases hj : j = i
  · subst hj
    rw [hi] at e1
    cases e1
    rw [List.getElem?_set_self (by rw [← R.len]; exact il)] at e2
    cases e2
    exact n
  · rw [List.getElem?_set_ne (Ne.symm hj)] at e2
    refine (R.at_ j b u e1 e2).mono ⟨⟨[], by simp⟩, .put h w⟩ (upd_ne fun z => ?_)
    subst z
    exact hj ((nodup_ix2 R.nd e1 hi))
where
  nodup_ix2 {l : List Addr} (hl : l.Nodup) {i j : Nat} {x : Addr} (a : l[i]? = some x) (b : l[j]? = some x) : i = j := by
    obtain ⟨h1, e1⟩ := List.getElem?_eq_some_iff.mp a
    obtain ⟨h2, e2⟩ := List.getElem?_eq_some_iff.mp b
    exact (List.getElem_inj hl).mp (e1.trans e2.symm)
theorem Ext.put {ho ho' : HO} (h : H a = Option.some ho) (w : Wr ho) : Ext r H r (upd H a ho') := ⟨⟨[], by simp⟩, .put h w⟩
end
/-! ## The frame's slots -/
/-- the slots hold what the environment says -/
def ER (K : PySem.W.Frag) (r : List Addr) (H : Hp) (e : Env) (s : L2.St) : Prop := e.length = s.length ∧ ∀ (i : Nat) (d : D), e[i]? = some (some d) → ∃ v, s[i]? = some (some v) ∧ VR K r H d v
section
variable {K : PySem.W.Frag} {r r1 : List Addr} {H H1 : Hp} {e : Env} {s : L2.St}
theorem ER.mono (x : Ext r H r1 H1) (h : ER K r H e s) : ER K r1 H1 e s := ⟨h.1, fun i d q => let ⟨v, a, b⟩ := h.2 i d q; ⟨v, a, VR.mono x _ _ b⟩⟩
theorem ER.set (h : ER K r H e s) {d : D} {v : V} (i : Nat) (q : VR K r H d v) : ER K r H (e.set i (some d)) (s.set i (some v)) := by
  refine ⟨by simp [h.1], fun j c z => ?_⟩
  by_cases hj : j = i
  · subst hj
    have hl : j < e.length := by
      have := (List.getElem?_eq_some_iff.mp z).1
      simpa using this
    rw [List.getElem?_set_self hl] at z
    cases z
    exact ⟨v, by rw [List.getElem?_set_self (by rw [← h.1]; exact hl)], q⟩
  · rw [List.getElem?_set_ne (Ne.symm hj)] at z
    obtain ⟨w, a, b⟩ := h.2 j c z
    exact ⟨w, by rw [List.getElem?_set_ne (Ne.symm hj)]; exact a, b⟩
theorem ER.unset (h : ER K r H e s) (i : Nat) : ER K r H (e.set i none) (s.set i none) := by
  refine ⟨by simp [h.1], fun j c z => ?_⟩
  by_cases hj : j = i
  · subst hj
    have hl : j < e.length := by
      have := (List.getElem?_eq_some_iff.mp z).1
      simpa using this
    rw [List.getElem?_set_self hl] at z
    cases z
  · rw [List.getElem?_set_ne (Ne.symm hj)] at z
    obtain ⟨w, a, b⟩ := h.2 j c z
    exact ⟨w, by rw [List.getElem?_set_ne (Ne.symm hj)]; exact a, b⟩
theorem ER.wipe (h : ER K r H e s) : ∀ vs : List Nat, ER K r H (Uk.wipe e vs) (L2.wipe s vs)
  | [] => h
  | v :: vs => (ER.wipe h vs).unset v
end
/-! ## Results -/
/-- an exception, as it lies -/
def XR (K : PySem.W.Frag) (mg : Str → Option Value) (r : List Addr) (H : Hp) (x : Exn) (cls : Value) (d : Option Addr) : Prop :=
  ∃ C, mg (sS x.cls) = some (.ref C) ∧ cls = .ref C ∧ match x.fs with
    | [] => d = none
    | fs => ∃ a ps, d = some a ∧ H a = some (.xd ps) ∧ FRs K r H fs ps
/-- behind an expression's run -/
def Post (K : PySem.W.Frag) (mg : Str → Option Value) (E : XK) (r : List Addr) (H : Hp) (m : R D) (Q : VK) : Prop := match m with
  | .ok d g => ∀ r' v H', Ext r H r' H' → Rel K mg r' g H' → VR K r' H' d v → Q v H'
  | .exc x g => ∀ r' H' cls dx, Ext r H r' H' → Rel K mg r' g H' → XR K mg r' H' x cls dx → E cls dx H'
  | .bad => False
def PostA (K : PySem.W.Frag) (mg : Str → Option Value) (E : XK) (r : List Addr) (H : Hp) (m : R (List D)) (Q : List V → Hp → Prop) : Prop := match m with
  | .ok d g => ∀ r' v H', Ext r H r' H' → Rel K mg r' g H' → VRs K r' H' d v → Q v H'
  | .exc x g => ∀ r' H' cls dx, Ext r H r' H' → Rel K mg r' g H' → XR K mg r' H' x cls dx → E cls dx H'
  | .bad => False
section
variable {K : PySem.W.Frag} {mg : Str → Option Value} {E : XK} {r r1 : List Addr} {H H1 : Hp}
theorem Post.mono {m : R D} {Q Q' : VK} (h : Post K mg E r H m Q) (x : Ext r H r1 H1) (hq : ∀ v H, Q v H → Q' v H) : Post K mg E r1 H1 m Q' := by
  cases m with
  | ok d g => exact fun r' v H' y R q => hq _ _ (h r' v H' (x.trans y) R q)
  | exc e g => exact fun r' H' c d y R q => h r' H' c d (x.trans y) R q
  | bad => exact h
theorem Post.ext {m : R D} {Q : VK} (h : Post K mg E r H m Q) (x : Ext r H r1 H1) : Post K mg E r1 H1 m Q := h.mono x fun _ _ q => q
end
end Uk
end
section
set_option Elab.async false
set_option linter.all false
set_option maxRecDepth 100000
set_option autoImplicit false
set_option maxHeartbeats 1000000
namespace Uk
open PySem PySem.Spec PyProof.Rows L2
/-! ## Data, for the library's == -/
mutual
def pyD : D → PyData
  | .non => .none
  | .bl b => .bool b
  | .int i => .int i
  | .str s => .str (sS s)
  | .tup xs => .tuple (pyDs xs)
  | .ref _ => .none
  | .fro _ => .none
def pyDs : List D → List PyData
  | [] => []
  | x :: xs => pyD x :: pyDs xs
end
theorem strOk_sS (s : String) : PyData.strOk (sS s) = true := by
  unfold PyData.strOk
  rw [← Array.all_toList, sS_cps, List.all_map, List.all_eq_true]
  intro c _
  have h := c.valid
  simp only [UInt32.isValidChar, Nat.isValidChar] at h
  have h2 : c.toNat < 1114112 := by
    have : c.toNat = c.val.toNat := rfl
    omega
  show decide (c.toNat < 1114112) = true
  exact decide_eq_true h2
mutual
theorem pyD_lay : ∀ d : D, (pyD d).canLay0 = true
  | .non => by unfold pyD; simp only [PyData.canLay0]
  | .bl b => by unfold pyD; simp only [PyData.canLay0]
  | .int i => by unfold pyD; simp only [PyData.canLay0]
  | .str s => by unfold pyD; simp only [PyData.canLay0]; exact strOk_sS s
  | .tup xs => by unfold pyD; simp only [PyData.canLay0]; exact pyDs_lay xs
  | .ref _ => by unfold pyD; simp only [PyData.canLay0]
  | .fro _ => by unfold pyD; simp only [PyData.canLay0]
theorem pyDs_lay : ∀ ds : List D, PyData.canLayAll0 (pyDs ds) = true
  | [] => by unfold pyDs; simp only [PyData.canLayAll0]
  | d :: ds => by unfold pyDs; simp only [PyData.canLayAll0]; rw [pyD_lay d, pyDs_lay ds]; rfl
end
mutual
theorem pyD_dep : ∀ d : D, (pyD d).depth ≤ d.dep
  | .non => by unfold pyD; simp only [PyData.depth]; omega
  | .bl b => by unfold pyD; simp only [PyData.depth]; omega
  | .int i => by unfold pyD; simp only [PyData.depth]; omega
  | .str s => by unfold pyD; simp only [PyData.depth]; omega
  | .tup xs => by unfold pyD D.dep; simp only [PyData.depth]; have := pyDs_dep xs; omega
  | .ref _ => by unfold pyD; simp only [PyData.depth]; omega
  | .fro _ => by unfold pyD; simp only [PyData.depth]; omega
theorem pyDs_dep : ∀ ds : List D, PyData.depthAll (pyDs ds) ≤ D.deps ds
  | [] => by unfold pyDs D.deps; simp only [PyData.depthAll]; omega
  | d :: ds => by unfold pyDs D.deps; simp only [PyData.depthAll]; have := pyD_dep d; have := pyDs_dep ds; omega
end
theorem pyD_shaped {d : D} (h : d.dep ≤ 60) : SeqAt.shaped (pyD d) = true := by
  show ((pyD d).canLay0 && decide ((pyD d).depth ≤ 64)) = true
  have := pyD_dep d
  rw [pyD_lay d, Bool.true_and]
  exact decide_eq_true (by omega)
theorem pyDs_shapedL {ds : List D} (h : D.deps ds ≤ 60) : SeqAt.shaped (.list (pyDs ds)) = true := by
  show ((PyData.list (pyDs ds)).canLay0 && decide ((PyData.list (pyDs ds)).depth ≤ 64)) = true
  have h2 := pyDs_dep ds
  simp only [PyData.canLay0, PyData.depth]
  rw [pyDs_lay ds, Bool.true_and]
  exact decide_eq_true (by omega)
theorem str_beq (x y : String) : (sS x == sS y) = (x == y) := by
  by_cases h : x = y
  · subst h
    simp
  · have h2 : sS x ≠ sS y := fun z => h (sS_inj z)
    rw [beq_eq_false_iff_ne.mpr h, beq_eq_false_iff_ne.mpr h2]
mutual
theorem pyD_eqv : ∀ d e : D, d.dep ≤ 60 → e.dep ≤ 60 → PyData.eqv (pyD d) (pyD e) = D.eqv d e
  | .ref _, _, h, _ => absurd h (by unfold D.dep; omega)
  | .fro _, _, h, _ => absurd h (by unfold D.dep; omega)
  | .non, e, _, h => by
    cases e <;> first
      | exact absurd h (by unfold D.dep; omega)
      | simp only [pyD, PyData.eqv, D.eqv]
  | .bl b, e, _, h => by
    cases e <;> first
      | exact absurd h (by unfold D.dep; omega)
      | simp only [pyD, PyData.eqv, D.eqv]
  | .int i, e, _, h => by
    cases e <;> first
      | exact absurd h (by unfold D.dep; omega)
      | simp only [pyD, PyData.eqv, D.eqv]
  | .str s, e, _, h => by
    cases e <;> first
      | exact absurd h (by unfold D.dep; omega)
      | (simp only [pyD, PyData.eqv, D.eqv]; done)
      | (simp only [pyD, PyData.eqv, D.eqv]; exact str_beq _ _)
  | .tup xs, e, h1, h2 => by
    cases e with
    | tup ys =>
      simp only [pyD, PyData.eqv, D.eqv]
      exact pyDs_eqv xs ys (by unfold D.dep at h1; omega) (by unfold D.dep at h2; omega)
    | ref _ => exact absurd h2 (by unfold D.dep; omega)
    | fro _ => exact absurd h2 (by unfold D.dep; omega)
    | _ => simp only [pyD, PyData.eqv, D.eqv]
theorem pyDs_eqv : ∀ ds es : List D, D.deps ds ≤ 60 → D.deps es ≤ 60 → PyData.eqvAll (pyDs ds) (pyDs es) = D.eqvs ds es
  | [], [], _, _ => by simp only [pyDs, PyData.eqvAll, D.eqvs]
  | [], _ :: _, _, _ => by simp only [pyDs, PyData.eqvAll, D.eqvs]
  | _ :: _, [], _, _ => by simp only [pyDs, PyData.eqvAll, D.eqvs]
  | d :: ds, e :: es, h1, h2 => by
    unfold D.deps at h1 h2
    simp only [pyDs, PyData.eqvAll, D.eqvs]
    rw [pyD_eqv d e (by omega) (by omega), pyDs_eqv ds es (by omega) (by omega)]
end
section
variable {K : PySem.W.Frag} {r : List Addr} {H : Hp}
mutual
theorem VR.dp : ∀ (d : D) (v : V), VR K r H d v → d.dep ≤ 60 → Dp K H v (pyD d)
  | .non, v, h, _ => by rw [h.non_inv]; unfold pyD; exact .non
  | .bl b, v, h, _ => by rw [h.bl_inv]; unfold pyD; exact .bl b
  | .int i, v, h, _ => by rw [h.int_inv]; unfold pyD; exact .int i
  | .str s, v, h, _ => by rw [h.str_inv]; unfold pyD; exact .str _
  | .tup xs, v, h, k => by
    obtain ⟨a, vs, e, h1, h2⟩ := h.tup_inv
    rw [e]
    unfold pyD
    exact .tup h1 (VRs.dp xs vs h2 (by unfold D.dep at k; omega))
  | .ref _, _, _, k => absurd k (by unfold D.dep; omega)
  | .fro _, _, _, k => absurd k (by unfold D.dep; omega)
theorem VRs.dp : ∀ (ds : List D) (vs : List V), VRs K r H ds vs → D.deps ds ≤ 60 → DpAll K H vs (pyDs ds)
  | [], vs, h, _ => by rw [VRs.nil_iff.mp h]; unfold pyDs; exact .nil
  | d :: ds, vs, h, k => by
    obtain ⟨v, q, e, h1, h2⟩ := h.inv
    rw [e]
    unfold pyDs
    unfold D.deps at k
    exact .cons (VR.dp d v h1 (by omega)) (VRs.dp ds q h2 (by omega))
end
end
/-! ## Results again -/
section
variable {K : PySem.W.Frag} {mg : Str → Option Value} {E : XK} {r : List Addr} {H : Hp} {g : G} {Q : VK} {d : D} {v : V}
theorem Post.here (h : Post K mg E r H (.ok d g) Q) (R : Rel K mg r g H) (q : VR K r H d v) : Q v H := h r v H (.refl r H) R q
/-- a new tuple -/
theorem Post.newTup {ds : List D} {vs : List V} {p : Addr} (h : Post K mg E r H (.ok (.tup ds) g) Q) (R : Rel K mg r g H) (q : VRs K r H ds vs) (hp : H p = none) : Q (.ref p) (upd H p (.tup vs)) :=
  h r _ _ (.new hp) (R.beside hp) (.tup (.of upd_same) (VRs.mono (.new hp) _ _ q))
/-- a new list -/
theorem Post.newLst {ds : List D} {vs : List V} {p : Addr} (h : Post K mg E r H (.ok (.ref g.length) (g ++ [.lst ds])) Q) (R : Rel K mg r g H) (q : VRs K r H ds vs) (hp : H p = none) : Q (.ref p) (upd H p (.lst vs)) :=
  h (r ++ [p]) _ _ (.newR hp) (R.new hp ⟨vs, upd_same, VRs.mono (.newR hp) _ _ q⟩) (.ref (by rw [← R.len]; exact get_last))
end
theorem line_eq : line = sizeLine := by rw [sizeLine_eq]; rfl
/-! ## Two-place operations -/
def bopOp : Bop → Operator
  | .add => .Add
  | .sub => .Sub
  | .mul => .Mult
  | .fdiv => .FloorDiv
  | .mod => .Mod
  | .pow => .Pow
theorem lsOf_some {g : G} {i : Nat} {xs : List D} (h : lsOf g i = some xs) : g[i]? = some (.lst xs) := by
  unfold lsOf at h
  cases e : g[i]? with
  | none => rw [e] at h; cases h
  | some o =>
    rw [e] at h
    cases o with
    | lst ys => cases h; rfl
    | _ => cases h
theorem Rel.lst {K : PySem.W.Frag} {mg : Str → Option Value} {r : List Addr} {g : G} {H : Hp} (R : Rel K mg r g H) {i : Nat} {xs : List D} {v : V} (h : lsOf g i = some xs) (q : VR K r H (.ref i) v) :
    ∃ a vs, r[i]? = some a ∧ v = .ref a ∧ H a = some (.lst vs) ∧ VRs K r H xs vs := by
  obtain ⟨a, e, rfl⟩ := q.ref_inv
  obtain ⟨vs, h1, h2⟩ := R.at_ i a _ e (lsOf_some h)
  exact ⟨a, vs, e, rfl, h1, h2⟩
theorem VRs.rep {K : PySem.W.Frag} {r : List Addr} {H : Hp} {ds : List D} {vs : List V} (h : VRs K r H ds vs) : ∀ n : Nat, VRs K r H (Uk.rep ds n) (List.replicate n vs).flatten
  | 0 => by
    show VRs K r H [] (List.replicate 0 vs).flatten
    simp [VRs.nil_iff]
  | n + 1 => by
    show VRs K r H (ds ++ Uk.rep ds n) (List.replicate (n + 1) vs).flatten
    rw [List.replicate_succ, List.flatten_cons]
    exact h.append (VRs.rep h n)
theorem VRs.nil_of {K : PySem.W.Frag} {r : List Addr} {H : Hp} {ds : List D} {vs : List V} (h : VRs K r H ds vs) : vs = [] ↔ ds = [] := by
  have := h.length
  constructor
  · rintro rfl
    exact List.length_eq_zero_iff.mp this.symm
  · rintro rfl
    exact List.length_eq_zero_iff.mp this
section
variable {X : L2.Cx} {E : XK} {r : List Addr} {H : Hp} {g : G} {Q : VK} {pins : List (Addr × Obj)} {s : Shared} {σ : L2.St}
theorem bin_ok {o : Bop} {x y : D} {v w : V} {a b : Value} (I : Inv X pins σ H s) (R : Rel X.K X.mg r g H) (hx : VR X.K r H x v) (hy : VR X.K r H y w) (ra : RelV v a) (rb : RelV w b)
    (hp : Post X.K X.mg E r H (binop o x y g) Q) : wpAny (model X.prog X.w) X.A (binaryOp (bopOp o) a b) (EP X pins σ Q) X.xe s := by
  cases o with
  | add =>
    cases x with
    | int i =>
      cases y with
      | int j =>
        rw [hx.int_inv] at ra
        rw [hy.int_inv] at rb
        exact op_add pins s σ H _ _ a b Q I ra rb ⟨i, j, rfl, rfl, Post.here hp R .int⟩
      | _ => exact hp.elim
    | str i =>
      cases y with
      | str j =>
        rw [hx.str_inv] at ra
        rw [hy.str_inv] at rb
        have hp2 : Post X.K X.mg E r H (newS (i ++ j) g) Q := hp
        unfold newS at hp2
        split at hp2
        · rename_i hl
          refine op_add_str pins s σ H _ _ a b Q I ra rb ⟨_, _, rfl, rfl, ?_, ?_⟩
          · rw [sS_len, sS_len, ← line_eq]
            simpa using hl
          · rw [← sS_app]
            exact Post.here hp2 R .str
        · exact hp2.elim
      | _ => exact hp.elim
    | tup xs =>
      cases y with
      | tup ys =>
        obtain ⟨p, vs, rfl, h1, h2⟩ := hx.tup_inv
        obtain ⟨q, ws, rfl, h3, h4⟩ := hy.tup_inv
        have hp2 : Post X.K X.mg E r H (newT (xs ++ ys) g) Q := hp
        unfold newT at hp2
        split at hp2
        · rename_i hl
          have e1 := h2.length
          have e2 := h4.length
          refine op_catA pins s σ H _ _ a b Q I ra rb ⟨p, q, vs, ws, rfl, rfl, h1, h3, ?_, fun z => ?_, fun _ z => ?_, fun _ _ t ht => Post.newTup hp2 R (h2.append h4) ht⟩
          · rw [e1, e2, ← line_eq]
            simpa using hl
          · have z2 := h2.nil_of.mp z
            subst z2
            exact Post.here hp2 R hy
          · have z2 := h4.nil_of.mp z
            subst z2
            rw [List.append_nil] at hp2
            exact Post.here hp2 R hx
        · exact hp2.elim
      | _ => exact hp.elim
    | ref i =>
      cases y with
      | ref j =>
        have hp2 : Post X.K X.mg E r H (match lsOf g i, lsOf g j with
          | some xs, some ys => newL (xs ++ ys) g
          | _, _ => .bad) Q := hp
        split at hp2
        · rename_i xs ys e1 e2
          obtain ⟨p, vs, _, rfl, h1, h2⟩ := R.lst e1 hx
          obtain ⟨q, ws, _, rfl, h3, h4⟩ := R.lst e2 hy
          unfold newL at hp2
          split at hp2
          · rename_i hl
            refine op_cat pins s σ H _ _ a b Q I ra rb ⟨p, q, vs, ws, rfl, rfl, h1, h3, ?_, fun t ht => Post.newLst hp2 R (h2.append h4) ht⟩
            rw [h2.length, h4.length, ← line_eq]
            simpa using hl
          · exact hp2.elim
        · exact hp2.elim
      | _ => exact hp.elim
    | _ => cases y <;> exact hp.elim
  | sub =>
    cases x with
    | int i =>
      cases y with
      | int j =>
        rw [hx.int_inv] at ra
        rw [hy.int_inv] at rb
        exact op_sub pins s σ H _ _ a b Q I ra rb ⟨i, j, rfl, rfl, Post.here hp R .int⟩
      | _ => exact hp.elim
    | _ => cases y <;> exact hp.elim
  | mul =>
    cases x with
    | int i =>
      cases y with
      | int j =>
        rw [hx.int_inv] at ra
        rw [hy.int_inv] at rb
        have hp2 : Post X.K X.mg E r H (if mulOk i j = true then .ok (.int (i * j)) g else .bad) Q := hp
        split at hp2
        · rename_i hl
          refine op_mul pins s σ H _ _ a b Q I ra rb ⟨i, j, rfl, rfl, ?_, Post.here hp2 R .int⟩
          unfold mulOk at hl
          simp only [Bool.or_eq_true, Bool.and_eq_true, decide_eq_true_eq] at hl
          exact hl
        · exact hp2.elim
      | _ => exact hp.elim
    | tup xs =>
      cases y with
      | int j =>
        obtain ⟨p, vs, rfl, h1, h2⟩ := hx.tup_inv
        rw [hy.int_inv] at rb
        have hp2 : Post X.K X.mg E r H (if 2 ≤ j ∧ j ≤ 1000 ∧ 0 < xs.length ∧ xs.length ≤ 1000 then .ok (.tup (Uk.rep xs j.toNat)) g else .bad) Q := hp
        split at hp2
        · rename_i hl
          have e1 := h2.length
          refine op_repT pins s σ H _ _ a b Q I ra rb ⟨p, j, vs, rfl, rfl, h1, ?_, hl.1, hl.2.1, by rw [e1]; exact hl.2.2.2, fun t ht => Post.newTup hp2 R (h2.rep _) ht⟩
          rintro rfl
          simp at e1
          omega
        · exact hp2.elim
      | _ => exact hp.elim
    | _ => cases y <;> exact hp.elim
  | fdiv =>
    cases x with
    | int i =>
      cases y with
      | int j =>
        rw [hx.int_inv] at ra
        rw [hy.int_inv] at rb
        have hp2 : Post X.K X.mg E r H (if 0 < j ∧ j < 1073741824 then .ok (.int (i / j)) g else .bad) Q := hp
        split at hp2
        · rename_i hl
          exact op_fdiv pins s σ H _ _ a b Q I ra rb ⟨i, j, rfl, rfl, hl, Post.here hp2 R .int⟩
        · exact hp2.elim
      | _ => exact hp.elim
    | _ => cases y <;> exact hp.elim
  | mod =>
    cases x with
    | int i =>
      cases y with
      | int j =>
        rw [hx.int_inv] at ra
        rw [hy.int_inv] at rb
        have hp2 : Post X.K X.mg E r H (if 0 < j then .ok (.int (i % j)) g else .bad) Q := hp
        split at hp2
        · rename_i hl
          exact op_mod pins s σ H _ _ a b Q I ra rb ⟨i, j, rfl, rfl, hl, Post.here hp2 R .int⟩
        · exact hp2.elim
      | _ => exact hp.elim
    | _ => cases y <;> exact hp.elim
  | pow =>
    cases x with
    | int i =>
      cases y with
      | int j =>
        rw [hx.int_inv] at ra
        rw [hy.int_inv] at rb
        have hp2 : Post X.K X.mg E r H (if 0 ≤ j ∧ j ≤ 1000000 ∧ i.natAbs < 2 ^ 64 then .ok (.int (i ^ j.toNat)) g else .bad) Q := hp
        split at hp2
        · rename_i hl
          exact op_pow pins s σ H _ _ a b Q I ra rb ⟨i, j, rfl, rfl, hl, Post.here hp2 R .int⟩
        · exact hp2.elim
      | _ => exact hp.elim
    | _ => cases y <;> exact hp.elim
end
end Uk
end
section
set_option Elab.async false
set_option linter.all false
set_option maxRecDepth 100000
set_option autoImplicit false
set_option maxHeartbeats 2000000
namespace Uk
open PySem PySem.Spec PyProof.Rows L2
open PySem.W PySem.Calls PySem.HandSPX
/-! ## An own error with one field -/
def eA (f : String) (p1 p2 : Pos) : Arguments := { posonlyargs := [], args := [{ arg := "self", annotation := none, pos := p1 }, { arg := sS f, annotation := none, pos := p2 }], vararg := none, kwonlyargs := [], kw_defaults := [], kwarg := none, defaults := [] }
def eB (f : String) (q1 q2 q3 q4 : Pos) : List Stmt := [.Assign [.Attribute (.Name "self" q1) (sS f) q2] (.Name (sS f) q3) q4]
def eS (f : String) : Scope := { kind := .function, names := [(sS "self", .local), (sS f, .local)], isGenerator := false, isCoroutine := false, more := [] }
/-- what the written part says of the class at C, whose __init__ stands at fI and stores the field f -/
structure ExT (K : Frag) (C fI : Addr) (f : String) : Prop where
  cls : ∃ nm q N bs bm sn sub ab col dd k0 k1 k2 k3 k5, K.lookup C = some (excClassObj nm q C N bs bm true sn sub ab col dd k0 k1 k2 k3 k5 "ValueError.__new__") ∧ refsVE bm = true
  sa : findIn K (.ref C) "__setattr__" = some (some (.builtin "object.__setattr__"))
  ga : findIn K (.ref C) "__getattribute__" = some (some (.builtin "BaseException.__getattribute__"))
  gg : findIn K (.ref C) "__getattr__" = some none
  noN : findIn K (.ref C) (sS f) = some none
  iC : findIn K (.ref C) "__init__" = some (some (.ref fI))
  tC : typeIn K (.ref fI) = some (.type "function")
  kC : keepIn K (.ref C) = true
  exC : subIn K (.ref C) (.type "BaseException") = some true
  tyC : typeIn K (.ref C) = some (.type "type")
  hdC : hasDictIn K C = true
  fn : ∃ (qual : Str) (oc : Value) (od : Option Addr) (kV doc pm : Value) (an : Option Addr) (cdv ct : Value) (osl : Array (Option Value)) (p1 p2 q1 q2 q3 q4 : Pos),
    K.lookup fI = some ⟨oc, od, .func (fnOf "__init__" qual (eA f p1 p2) (eB f q1 q2 q3 q4) (eS f) .none kV doc pm an cdv ct), osl⟩ ∧ codeIn K cdv qual = true
/-- a name that may be a field of an error: what is plain of it -/
structure FldN (f : String) : Prop where
  deb : ((sS f == ("__debug__" : Str)) = false)
  bt : ∀ (qual : Str) (kV doc pm : Value) (an : Option Addr) (cdv ct : Value) (p1 p2 q1 q2 q3 q4 : Pos) (x : Addr) (v : Value),
    bindArgs (fnOf "__init__" qual (eA f p1 p2) (eB f q1 q2 q3 q4) (eS f) .none kV doc pm an cdv ct) ⟨[.ref x, v], []⟩ = pure [(sS "self", .ref x), (sS f, v)]
  al : ∀ (x : Addr) (v : Value), ([(sS "self", Value.ref x), (sS f, v)].all fun y => List.lookup y.fst (eS f).names == some NameKind.local || List.lookup y.fst (eS f).names == some NameKind.cell) = true
  kf : ∀ (qual : Str) (L a : Addr) (cdv : Value), (envOfC qual (eS f) L a cdv).kindOf (sS f) = some .local
  ks : ∀ (qual : Str) (L a : Addr) (cdv : Value), (envOfC qual (eS f) L a cdv).kindOf (sS "self") = some .local
  lf : ∀ (qual : Str) (L a : Addr) (cdv : Value) (x : Addr) (v : Value), bindL (envOfC qual (eS f) L a cdv).kindOf [(sS "self", .ref x), (sS f, v)] (fun _ => none) (sS f) = some v
  ls : ∀ (qual : Str) (L a : Addr) (cdv : Value) (x : Addr) (v : Value), bindL (envOfC qual (eS f) L a cdv).kindOf [(sS "self", .ref x), (sS f, v)] (fun _ => none) (sS "self") = some (.ref x)
theorem loc_ld {M : Model} {s : Shared} {name : Str} {scope : Scope} {L a : Addr} {cd : Value} {m : Str → Option Value} {x : Str} {pos : Pos} {v : Value} {Q : Value → Shared → Prop} {A : Around} {E : Value → Shared → Prop} (hn : s.heap.Ns L m) (hv : m x = some v) (h : Q v s)
    (hk : scope.kind = .function) (hl : (envOfC name scope L a cd).kindOf x = some .local) (hd : (x == ("__debug__" : Str)) = false) :
    wpAny M A (eval (.Name x pos) (envOfC name scope L a cd)) Q E s := wpAny_Name (wpAny_loadName_local hk hl hn hv h) hd
structure ExEnd (h h' : Heap) (x C dx t1 : Addr) (f : String) (v : Value) : Prop where
  keep : ∀ b o, b ≠ x → h.get? b = some o → h'.get? b = some o
  obj : h'.get? x = some { cls := .ref C, dict := some dx, data := .fields #[.ref t1, .none, .none, .none, .bool false, .none] }
  dbig : h.objs.size ≤ dx
  dne : dx ≠ x
  ns : h'.Ns1 dx (fun y => if y = sS f then some v else none)
structure ExMade (h h' : Heap) (e C d : Addr) (f : String) (v : Value) : Prop where
  keep : ∀ b o, h.get? b = some o → h'.get? b = some o
  new : h.objs.size ≤ e
  obj : ∃ oe vs, h'.get? e = some oe ∧ oe.cls = .ref C ∧ oe.dict = some d ∧ oe.data = .fields vs ∧ vs[1]? = some .none
  dbig : h.objs.size ≤ d
  dne : d ≠ e
  ns : h'.Ns1 d (fun y => if y = sS f then some v else none)
section
variable {prog : Program} {w : World} {A : Around} {E : Value → Shared → Prop} {R : Result → Shared → Prop} {s : Shared} {K : Frag} {C fI : Addr} {f : String}
theorem ex_init (FN : FldN f) (T : ExT K C fI f) {x t0 : Addr} {v : Value} (X : K.In s.heap) (hlim : s.heap.NoLimit) (hx : s.heap.get? x = some (excO C t0)) (hnx : K.lookup x = none) (hroom : A.depth < recursionLimit)
    (hq : ∀ h' tk dx, ExEnd s.heap h' x C dx t0 f v → R (.ok (.ret .none)) { s with heap := h', toks := tk }) :
    codeAny (model prog w) A (.call (.ref fI) ⟨[.ref x, v], []⟩) R s := by
  obtain ⟨qual, oc, od, kV, doc, pm, an, cdv, ct, osl, p1, p2, q1, q2, q3, q4, ho, hcd⟩ := T.fn
  obtain ⟨nm, q, N, bs, bm, sn, sub, ab, col, dd, k0, k1, k2, k3, k5, hC, hbm⟩ := T.cls
  have hcl : clsIn K C = some { name := nm, bases := bs, mro := .ref C :: bm, ns := N, qualname := q, hasDict := true, slotNames := sn, subclasses := sub, abstract := ab, collection := col, hasDel := false } := by unfold clsIn; rw [hC] <;> rfl
  refine Att.call_fn (binds := [(sS "self", .ref x), (sS f, v)]) X hlim ho hcd hroom (BindsTo.of_eq (FN.bt ..)) (FN.al x v) (fun s₁ IC => ?_) rfl rfl rfl
  obtain ⟨h₁, tk₁, rfl⟩ := IC.toInCall.same
  have k : ∀ b o, s.heap.get? b = some o → h₁.get? b = some o := IC.toInCall.keep
  have hn := IC.toInCall.ns
  have hxL : s.heap.objs.size ≠ x := Nat.ne_of_gt (Heap.lt_size hx)
  have X₁ : K.In h₁ := X.keeps k
  have hx₁ := k _ _ hx
  show wpAny _ _ (execs _ _) _ _ _
  refine wpAny_execs_cons (plainObj_wpAny_Assign_Attribute ?_)
  refine loc_ld hn (FN.lf ..) (loc_ld hn (FN.ls ..) ?_ rfl (FN.ks ..) rfl) rfl (FN.kf ..) FN.deb
  refine set_plain X₁ (ox := excO C t0) (od := none) ⟨hx₁, rfl, rfl, trivial⟩ T.sa ?_
  refine exc_osa X₁ hx₁ hcl (show refsVE (.ref C :: bm) = true from hbm) rfl T.noN (fun h₃ tk₃ dx k₃ dn dne hx₃ hn₃ => ?_)
  show wpAny _ _ (execs _ _) _ _ _
  have z : s.heap.objs.size < h₁.objs.size := hn.lt
  exact wpAny_execs_nil (hq h₃ tk₃ dx ⟨fun b o hb e => k₃ b o hb (k b o e), hx₃, Nat.le_of_lt (Nat.lt_of_lt_of_le z dn), dne, hn₃⟩)
theorem ex_made (FN : FldN f) (T : ExT K C fI f) {v : Value} (X : K.In s.heap) (hlim : s.heap.NoLimit) (hroom : A.depth + 1 < recursionLimit)
    (hq : ∀ h' tk e d, ExMade s.heap h' e C d f v → R (.ok (.ret (.ref e))) { s with heap := h', toks := tk }) :
    codeAny (model prog w) A (.call (.ref C) ⟨[v], []⟩) R s := by
  obtain ⟨nm, q, N, bs, bm, sn, sub, ab, col, dd, k0, k1, k2, k3, k5, hC, hbm⟩ := T.cls
  obtain ⟨hp, g, dr, tk, os⟩ := s
  have k : ∀ b o, hp.get? b = some o → ((hp.push (kdv_tup [v])).push (excO C hp.objs.size)).get? b = some o := fun b o e => Heap.get?_push_of_some _ (Heap.get?_push_of_some _ e)
  have hget : ((hp.push (kdv_tup [v])).push (excO C hp.objs.size)).get? (hp.objs.size + 1) = some (excO C hp.objs.size) := by heap_get
  have hnx : K.lookup (hp.objs.size + 1) = none := by
    cases e : K.lookup (hp.objs.size + 1) with
    | none => rfl
    | some o =>
      have z : hp.get? (hp.objs.size + 1) = some o := X _ _ e
      exact absurd (Nat.lt_of_succ_lt (Heap.lt_size z)) (Nat.lt_irrefl _)
  have one : [v].length ≤ sizeLine := by
    rw [sizeLine_eq]
    exact (by decide : 1 ≤ 16777216)
  refine call_own F.excBase_ValueError (fun X => refsVE_contains X bm hbm) (X _ _ hC) (looks_findIn X T.iC) (fun self => bind_fn X self T.tC) one ?_
  refine ex_init (s := ⟨(hp.push (kdv_tup [v])).push (excO C hp.objs.size), g, dr, tk, os⟩) FN T (X.keeps k) (hlim.keeps k) hget hnx ?_ fun h' tk' dx ⟨k', hx, dn, dne, hns⟩ => ?_
  · show A.depth + 1 < recursionLimit
    exact hroom
  · have old : ∀ b o, hp.get? b = some o → h'.get? b = some o := fun b o e => k' b o (Nat.ne_of_lt (Nat.lt_succ_of_lt (Heap.lt_size e))) (k b o e)
    have z : hp.objs.size + 1 + 1 ≤ dx := by
      first
        | (simpa only [Heap.size_push] using dn)
        | exact dn
        | (have q := dn; rw [Heap.size_push, Heap.size_push] at q; exact q)
    exact ⟨rfl, hq h' tk' (hp.objs.size + 1) dx ⟨old, Nat.le_succ _, ⟨_, _, hx, rfl, rfl, rfl, rfl⟩, Nat.le_trans (Nat.le_trans (Nat.le_succ _) (Nat.le_succ _)) z, dne, hns⟩⟩
end
theorem fldN_path : FldN "path" where
  deb := by decide
  bt := by intros; rfl
  al := by intros; rfl
  kf := by intros; rfl
  ks := by intros; rfl
  lf := by intros; rfl
  ls := by intros; rfl
theorem fldN_index : FldN "index" where
  deb := by decide
  bt := by intros; rfl
  al := by intros; rfl
  kf := by intros; rfl
  ks := by intros; rfl
  lf := by intros; rfl
  ls := by intros; rfl
theorem fldN_line : FldN "line" where
  deb := by decide
  bt := by intros; rfl
  al := by intros; rfl
  kf := by intros; rfl
  ks := by intros; rfl
  lf := by intros; rfl
  ls := by intros; rfl
theorem fldN_example : FldN "example" where
  deb := by decide
  bt := by intros; rfl
  al := by intros; rfl
  kf := by intros; rfl
  ks := by intros; rfl
  lf := by intros; rfl
  ls := by intros; rfl
end Uk
end
section
set_option Elab.async false
set_option linter.all false
set_option maxRecDepth 100000
set_option autoImplicit false
set_option maxHeartbeats 1000000
namespace Uk
open PySem PySem.Spec PyProof.Rows L2
/-! ## Is this syntax that one? -/
def visB (sc : Scope) (x : Str) : Bool := match sc.names.lookup x with
  | some .local => true
  | some .cell => true
  | some .free => true
  | _ => false
def nmB (x : Str) : Bool := !(x == ("__debug__" : Str)) && !(x == ("__classdict__" : Str)) && !(x == ("__name__" : Str))
def glB (sc : Scope) (x : Str) : Bool := nmB x && match sc.names.lookup x with
  | some .globalImplicit => true
  | _ => false
def ckC (d : D) (c : Const) : Bool := match d, c with
  | .non, .none => true
  | .bl a, .bool b => a == b
  | .int i, .int j => decide (i = j)
  | .str s, .str x => decide (sS s = x)
  | _, _ => false
def ckN (N : List String) (i : Nat) (x : Str) : Bool := match N[i]? with
  | some s => decide (sS s = x)
  | none => false
def bopB (o : Bop) (p : Operator) : Bool := decide (bopOp o = p)
def copOp : Cop → CmpOp
  | .eq => .Eq
  | .ne => .NotEq
  | .lt => .Lt
  | .le => .LtE
  | .gt => .Gt
  | .ge => .GtE
  | .isn => .Is
  | .notn => .IsNot
  | .in_ => .In
  | .nin => .NotIn
/-- is o == None written as such -/
def isnOk (o : Cop) (b : E) : Bool := match o with
  | .isn => isnC b
  | .notn => isnC b
  | _ => true
def copB (o : Cop) (p : CmpOp) (b : E) : Bool := decide (copOp o = p) && isnOk o b
def noSup (e : PySem.Expr) : Bool := match e with
  | .Call (.Name _ _) [] [] _ => false
  | _ => true
def lineB (p q : Pos) : Bool := p.endLine == q.line
def isIf (e : E) : Bool := match e with
  | .ite _ _ _ => true
  | _ => false
/-- the names of a comprehension's block -/
def ownOf (N : List String) (vs : List Nat) : List (Str × Nat) := vs.filterMap fun v => (N[v]?).map fun s => (sS s, v)
def tgB (N : List String) (sc : Scope) (i : Nat) (x : Str) : Bool := ckN N i x && match sc.names.lookup x with
  | some .local => true
  | some .cell => true
  | _ => false
def ckTs (N : List String) (sc : Scope) : List Nat → List PySem.Expr → Bool
  | [], [] => true
  | i :: is, .Name x _ :: ps => tgB N sc i x && ckTs N sc is ps
  | _, _ => false
def ckT (N : List String) (sc : Scope) : Tg → PySem.Expr → Bool
  | .one i, .Name x _ => tgB N sc i x
  | .many l, .Tuple ps _ _ => ckTs N sc l ps
  | _, _ => false
def tgIx : Tg → List Nat
  | .one i => [i]
  | .many l => l
/-- enumerate asks a target of the form a, b -/
def tgFor : It → Tg → Bool
  | .enum _, .one _ => false
  | _, _ => true
def Bi.name : Bi → String
  | .len => "len"
  | .abs => "abs"
  | .int => "int"
  | .list => "list"
  | .tuple => "tuple"
  | .all => "all"
  | .any => "any"
  | .max => "max"
  | .min => "min"
/-- no star, no slice alone -/
def plainP (p : PySem.Expr) : Bool := match p with
  | .Starred _ _ => false
  | .Slice _ _ _ _ => false
  | .Set _ _ _ => false
  | _ => true
mutual
def ckE (P : Pg) (N : List String) (sc : Scope) : E → PySem.Expr → Bool
  | .nope, p => plainP p
  | .cst d, .Constant c _ _ => ckC d c
  | .loc i, .Name x _ => ckN N i x && visB sc x && nmB x
  | .glo s, .Name x _ => decide (sS s = x) && glB sc x && (P.con s).isSome
  | .tup es, .Tuple ps _ _ => ckEs P N sc es ps
  | .lst es, .List ps _ => ckEs P N sc es ps
  | .bin o a b, .BinOp p q t _ => bopB o q && ckE P N sc a p && ckE P N sc b t
  | .neg a, .UnaryOp .USub p _ => ckE P N sc a p
  | .cmp o a b, .Compare p [q] [t] _ => copB o q b && ckE P N sc a p && ckE P N sc b t
  | .chn a o b o2 d, .Compare p [q, q2] [t, u] _ => copB o q b && copB o2 q2 d && ckE P N sc a p && ckE P N sc b t && ckE P N sc d u
  | .and_ a b, .BoolOp .And (p :: q :: l) pos => ckE P N sc a p && (match l with
    | [] => ckE P N sc b q
    | _ => ckE P N sc b (.BoolOp .And (q :: l) pos))
  | .or_ a b, .BoolOp .Or (p :: q :: l) pos => ckE P N sc a p && (match l with
    | [] => ckE P N sc b q
    | _ => ckE P N sc b (.BoolOp .Or (q :: l) pos))
  | .not_ a, .UnaryOp .Not p _ => ckE P N sc a p
  | .ite t a b, .IfExp p q u _ => ckE P N sc t p && !isIf t && ckE P N sc a q && ckE P N sc b u
  | .ix a i, .Subscript p q _ => ckE P N sc a p && ckE P N sc i q
  | .cut a lo hi, .Subscript p (.Slice l h none _) _ => ckE P N sc a p && (match l with
    | none => isnC lo
    | some q => !isnC lo && ckE P N sc lo q) && (match h with
    | none => isnC hi
    | some q => !isnC hi && ckE P N sc hi q)
  | .att a f, .Attribute p x _ => decide (sS f = x) && noSup p && ckE P N sc a p
  | .call f es, .Call (.Name x _) ps [] _ => decide (sS f = x) && glB sc x && (P.fn "" f).isSome && ckEs P N sc es ps
  | .mk k es, .Call (.Name x _) ps [] _ => decide (sS k = x) && glB sc x && P.cls k && !P.prop k "__init__" && ckEs P N sc es ps
  | .met a m es, .Call (.Attribute p x apos) ps [] pos => decide (sS m = x) && noSup p && lineB apos pos && decide (ps.length < 30) && ckE P N sc a p && ckEs P N sc es ps
  | .bi f es, .Call (.Name x _) ps [] _ => decide (sS f.name = x) && glB sc x && !ps.isEmpty && ckEs P N sc es ps
  | .isi a t, .Call (.Name x _) [p, .Name y _] [] _ => decide (sS "isinstance" = x) && glB sc x && decide (sS t = y) && glB sc y && (P.cls t || ["int", "bool", "str", "tuple", "list", "dict"].contains t) && ckE P N sc a p
  | .comp vs elt tg it cond, .ListComp p gs scope _ => match gs with
    | [⟨pt, pi, ifs, asy⟩] => decide (asy = 0) && decide ((ownOf N vs).map (·.2) = vs) && blkC (N.map sS) sc scope (ownOf N vs) && ckT N scope tg pt && (tgIx tg).all (fun i => vs.contains i) && tgFor it tg && ckI P N sc it pi && (match ifs with
      | [] => (match cond with
        | .cst (.bl true) => true
        | _ => false)
      | [q] => ckE P N (relS scope sc) cond q && !isIf cond
      | _ => false) && ckE P N (relS scope sc) elt p
    | _ => false
  | .dsp t ps, .Dict ks vs _ => !t && !ks.isEmpty && decide (ks.length ≤ 15) && ckPs P N sc ps ks vs
  | _, _ => false
def ckPs (P : Pg) (N : List String) (sc : Scope) : Ps → List (Option PySem.Expr) → List PySem.Expr → Bool
  | .n, [], [] => true
  | .c k v r, some p :: ps, q :: qs => ckE P N sc k p && ckE P N sc v q && ckPs P N sc r ps qs
  | _, _, _ => false
def ckEs (P : Pg) (N : List String) (sc : Scope) : Es → List PySem.Expr → Bool
  | .n, [] => true
  | .c e es, p :: ps => ckE P N sc e p && ckEs P N sc es ps
  | _, _ => false
def ckI (P : Pg) (N : List String) (sc : Scope) : It → PySem.Expr → Bool
  | .seq e, p => ckE P N sc e p
  | .enum e, .Call (.Name x _) [p] [] _ => decide (sS "enumerate" = x) && glB sc x && ckE P N sc e p
  | .r1 e, .Call (.Name x _) [p] [] _ => decide (sS "range" = x) && glB sc x && ckE P N sc e p
  | .r3 a b d, .Call (.Name x _) [p, q, t] [] _ => decide (sS "range" = x) && glB sc x && ckE P N sc a p && ckE P N sc b q && ckE P N sc d t
  | _, _ => false
end
/-! ## What the top has left -/
def bnames : List String := ["len", "abs", "int", "str", "list", "tuple", "all", "any", "max", "min", "isinstance", "enumerate", "range", "sorted", "set", "bool", "dict"]
/-- a def's promise: what the interpreter says -/
def SpOf (K : PySem.W.Frag) (mg : Str → Option Value) (n : Nat) (f : List D → G → R D) : Sp := fun vs H Q E => vs.length = n ∧ ∃ (r : List Addr) (g : G) (ds : List D), Rel K mg r g H ∧ VRs K r H ds vs ∧ Post K mg E r H (f ds g) Q
/-- the def fd stands at a -/
structure FnAt (K : PySem.W.Frag) (ck : Arguments → List Stmt → Scope → FDef → Bool) (fd : FDef) (a : Addr) (dt : FuncData) : Prop where
  ex : ∃ name qual params body scope dvs kws, FunD K name qual params body scope dvs kws a dt ∧ ck params body scope fd = true
  bi : Binds K dt (fd.ps.map sS) []
/-- the class k stands at C -/
structure ClsAt (K : PySem.W.Frag) (P : Pg) (k : String) (C : Addr) : Prop where
  cl : Cls K C
  fld : ∀ f, P.fld k f = true → NoAttr K C (sS f)
  mkr : ∃ f, Mk K C f
  o1 : PySem.W.findIn K (.ref C) "__class__" = some (some (.builtin "object.__class__"))
  o2 : PySem.W.specialIn K (.builtin "object.__class__") "__get__" = some (some (.builtin "getset_descriptor.__get__"))
  o3 : PySem.W.takesIn K (.builtin "object.__class__") = some true
  o4 : PySem.W.mroIn K C (.type "object") = some true
  nf : ∀ T ∈ ["NoneType", "bool", "int", "str", "tuple", "list"], PySem.W.notFirst K C (.type T) = true
  ne : ∀ f, PySem.W.findIn K (.ref C) "__eq__" = some (some (.ref f)) → ∀ (h : Heap) (x : Addr) (o : Obj), K.In h → h.get? x = some o → o.cls = .ref C → h.OwnEqNoNe x C f "object" [.type "object"]
  ty : ∀ T ∈ ["NoneType", "bool", "int", "str", "tuple", "list", "dict"], PySem.W.kitOne K (.type T) (.ref C) = some false
structure GF (K : PySem.W.Frag) (mg : Str → Option Value) (ck : Arguments → List Stmt → Scope → FDef → Bool) (P : Pg) : Prop where
  con : ∀ x d, P.con x = some d → ∃ v u, mg (sS x) = some u ∧ RelV v u ∧ ∀ r H, VR K r H d v
  blt : ∀ x ∈ bnames, mg (sS x) = none
  fn : ∀ f fd, P.fn "" f = some fd → ∃ a dt, mg (sS f) = some (.ref a) ∧ FnAt K ck fd a dt
  cls : ∀ k, P.cls k = true → ∃ C, mg (sS k) = some (.ref C) ∧ ClsAt K P k C
  met : ∀ k m fd C, P.cls k = true → P.fn k m = some fd → P.prop k m = false → mg (sS k) = some (.ref C) → ∃ a dt, Meth K C (sS m) a ∧ FnAt K ck fd a dt
  prop : ∀ k m fd C, P.cls k = true → P.fn k m = some fd → P.prop k m = true → mg (sS k) = some (.ref C) → ∃ p a dt, PropOf K C (sS m) p a ∧ FnAt K ck fd a dt
  exn : ∀ k f, P.exn k = some (some f) → ∃ C fI, mg (sS k) = some (.ref C) ∧ ExT K C fI f ∧ FldN f
  exm : ∀ k k' f f' C C', P.exn k = some f → P.exn k' = some f' → mg (sS k) = some (.ref C) → mg (sS k') = some (.ref C') → PySem.W.exmOne K (.ref C) (.ref C') = some (k == k')
  ins : ∀ k k' C C', P.cls k = true → P.cls k' = true → mg (sS k) = some (.ref C) → mg (sS k') = some (.ref C') → PySem.W.kitOne K (.ref C) (.ref C') = some (k == k')
/-- the calls at a level -/
def CallsOk (X : L2.Cx) (ck : Arguments → List Stmt → Scope → FDef → Bool) (P : Pg) (n : Nat) (call : String → String → List D → G → R D) : Prop :=
  ∀ k f fd a dt, P.fn k f = some fd → FnAt X.K ck fd a dt → FnOk X.prog X.w X.K X.mg X.base (L2.CX X.prog X.w) n a dt (fd.ps.map sS) (SpOf X.K X.mg fd.ps.length (call k f))
structure XOk (X : L2.Cx) (ck : Arguments → List Stmt → Scope → FDef → Bool) (c : Cx) (N : List String) (sc : Scope) (E : L2.St → XK) : Prop where
  nm : X.N = N.map sS
  nd : X.N.Nodup
  sc : X.env.scope = sc
  calm : X.calm = true
  gf : GF X.K X.mg ck c.P
  ar0 : ∀ k f ds g, c.call k f ds g ≠ .bad → ∃ fd, c.P.fn k f = some fd ∧ ds.length = fd.ps.length
  ar1 : ∀ k f ds g, c.call1 k f ds g ≠ .bad → ∃ fd, c.P.fn k f = some fd ∧ ds.length = fd.ps.length
  room : ∃ n, Room n X.A ∧ CallsOk X ck c.P n c.call ∧ ((∀ k f d g, c.call1 k f d g = .bad) ∨ ∃ m, m + 1 = n ∧ CallsOk X ck c.P m c.call1)
  pass : ∀ σ, PassesAt (L2.CX X.prog X.w) X σ (E σ)
/-! ## Readings -/
def LE (X : L2.Cx) (E : L2.St → XK) (m : Env → G → R D) : TE := fun σ H Q => ∃ (r : List Addr) (g : G) (e : Env), Rel X.K X.mg r g H ∧ ER X.K r H e σ ∧ Post X.K X.mg (E σ) r H (m e g) Q
def LA (X : L2.Cx) (E : L2.St → XK) (m : Env → G → R (List D)) : TA := fun σ H Q => ∃ (r : List Addr) (g : G) (e : Env), Rel X.K X.mg r g H ∧ ER X.K r H e σ ∧ PostA X.K X.mg (E σ) r H (m e g) Q
/-- a test: its value has to be a bool -/
def LT (X : L2.Cx) (E : L2.St → XK) (m : Env → G → R D) : TT := fun σ H Q => ∃ (r : List Addr) (g : G) (e : Env), Rel X.K X.mg r g H ∧ ER X.K r H e σ ∧ Post X.K X.mg (E σ) r H (m e g) fun v H' => ∃ b, v = .bl b ∧ Q b H'
section
variable {X : L2.Cx} {E : L2.St → XK} {r : List Addr} {H : Hp} {g : G} {Q : VK} {pins : List (Addr × Obj)} {s : Shared} {σ : L2.St} {e : Env}
/-- a part is run, then the rest -/
theorem LE.seq {p : PySem.Expr} {m : Env → G → R D} (ha : PE X p (LE X E m)) (I : Inv X pins σ H s) (R : Rel X.K X.mg r g H) (er : ER X.K r H e σ) {k : D → G → Uk.R D} (hp : Post X.K X.mg (E σ) r H ((m e g).bind k) Q)
    {Qf : Value → Shared → Prop} (next : ∀ (u : Value) (s1 : Shared) (r1 : List Addr) (g1 : G) (H1 : Hp) (d : D) (v : V), Inv X pins σ H1 s1 → Ext r H r1 H1 → Rel X.K X.mg r1 g1 H1 → ER X.K r1 H1 e σ → VR X.K r1 H1 d v → RelV v u → Post X.K X.mg (E σ) r1 H1 (k d g1) Q → Qf u s1) :
    wpAny (model X.prog X.w) X.A (eval p X.env) Qf X.xe s := by
  cases hm : m e g with
  | ok d g1 =>
    rw [hm] at hp
    have hp : Post X.K X.mg (E σ) r H (k d g1) Q := hp
    refine thn (ha.run pins s σ H (fun v H1 => ∃ r1, Ext r H r1 H1 ∧ Rel X.K X.mg r1 g1 H1 ∧ VR X.K r1 H1 d v) I ⟨r, g, e, R, er, ?_⟩) fun u s1 ⟨v, H1, I1, ru, r1, x, R1, q⟩ => ?_
    · rw [hm]
      exact fun r' v H' x R' q => ⟨r', x, R', q⟩
    · exact next u s1 r1 g1 H1 d v I1 x R1 (er.mono x) q ru (hp.ext x)
  | exc y g1 =>
    rw [hm] at hp
    refine thn (ha.run pins s σ H (fun _ _ => False) I ⟨r, g, e, R, er, ?_⟩) fun u s1 ⟨v, H1, I1, ru, z⟩ => z.elim
    rw [hm]
    exact hp
  | bad =>
    rw [hm] at hp
    exact hp.elim
/-- the same where the whole is a list of arguments' values -/
theorem LE.seqA {p : PySem.Expr} {m : Env → G → R D} (ha : PE X p (LE X E m)) (I : Inv X pins σ H s) (R : Rel X.K X.mg r g H) (er : ER X.K r H e σ) {k : D → G → Uk.R (List D)} {Q : List V → Hp → Prop} (hp : PostA X.K X.mg (E σ) r H ((m e g).bind k) Q)
    {Qf : Value → Shared → Prop} (next : ∀ (u : Value) (s1 : Shared) (r1 : List Addr) (g1 : G) (H1 : Hp) (d : D) (v : V), Inv X pins σ H1 s1 → Ext r H r1 H1 → Rel X.K X.mg r1 g1 H1 → ER X.K r1 H1 e σ → VR X.K r1 H1 d v → RelV v u → PostA X.K X.mg (E σ) r1 H1 (k d g1) Q → Qf u s1) :
    wpAny (model X.prog X.w) X.A (eval p X.env) Qf X.xe s := by
  cases hm : m e g with
  | ok d g1 =>
    rw [hm] at hp
    have hp : PostA X.K X.mg (E σ) r H (k d g1) Q := hp
    refine thn (ha.run pins s σ H (fun v H1 => ∃ r1, Ext r H r1 H1 ∧ Rel X.K X.mg r1 g1 H1 ∧ VR X.K r1 H1 d v) I ⟨r, g, e, R, er, ?_⟩) fun u s1 ⟨v, H1, I1, ru, r1, x, R1, q⟩ => ?_
    · rw [hm]
      exact fun r' v H' x R' q => ⟨r', x, R', q⟩
    · refine next u s1 r1 g1 H1 d v I1 x R1 (er.mono x) q ru ?_
      cases hk : k d g1 with
      | ok a b => rw [hk] at hp; exact fun r' v H' y R' q => hp r' v H' (x.trans y) R' q
      | exc a b => rw [hk] at hp; exact fun r' H' c d y R' q => hp r' H' c d (x.trans y) R' q
      | bad => rw [hk] at hp; exact hp
  | exc y g1 =>
    rw [hm] at hp
    refine thn (ha.run pins s σ H (fun _ _ => False) I ⟨r, g, e, R, er, ?_⟩) fun u s1 ⟨v, H1, I1, ru, z⟩ => z.elim
    rw [hm]
    exact hp
  | bad =>
    rw [hm] at hp
    exact hp.elim
/-- arguments are run, then the rest -/
theorem LA.seq {ps : List PySem.Expr} {m : Env → G → R (List D)} (ha : PA X ps (LA X E m)) (pos : Pos) (I : Inv X pins σ H s) (R : Rel X.K X.mg r g H) (er : ER X.K r H e σ) {k : List D → G → Uk.R D} (hp : Post X.K X.mg (E σ) r H ((m e g).bind k) Q)
    {Qf : List Value → Shared → Prop} (next : ∀ (us : List Value) (s1 : Shared) (r1 : List Addr) (g1 : G) (H1 : Hp) (ds : List D) (vs : List V), Inv X pins σ H1 s1 → Ext r H r1 H1 → Rel X.K X.mg r1 g1 H1 → ER X.K r1 H1 e σ → VRs X.K r1 H1 ds vs → Vals vs us → Post X.K X.mg (E σ) r1 H1 (k ds g1) Q → Qf us s1) :
    wpAny (model X.prog X.w) X.A (spliced (backTo pos (starEach ps X.env))) Qf X.xe s := by
  cases hm : m e g with
  | ok d g1 =>
    rw [hm] at hp
    have hp : Post X.K X.mg (E σ) r H (k d g1) Q := hp
    refine thn (ha.run pos pins s σ H (fun v H1 => ∃ r1, Ext r H r1 H1 ∧ Rel X.K X.mg r1 g1 H1 ∧ VRs X.K r1 H1 d v) I ⟨r, g, e, R, er, ?_⟩) fun u s1 ⟨v, H1, I1, ru, r1, x, R1, q⟩ => ?_
    · rw [hm]
      exact fun r' v H' x R' q => ⟨r', x, R', q⟩
    · exact next u s1 r1 g1 H1 d v I1 x R1 (er.mono x) q ru (hp.ext x)
  | exc y g1 =>
    rw [hm] at hp
    refine thn (ha.run pos pins s σ H (fun _ _ => False) I ⟨r, g, e, R, er, ?_⟩) fun u s1 ⟨v, H1, I1, ru, z⟩ => z.elim
    rw [hm]
    exact hp
  | bad =>
    rw [hm] at hp
    exact hp.elim
/-- an end -/
theorem Post.ep {d : D} {v : V} {u : Value} (hp : Post X.K X.mg (E σ) r H (.ok d g) Q) (I : Inv X pins σ H s) (R : Rel X.K X.mg r g H) (q : VR X.K r H d v) (ru : RelV v u) : EP X pins σ Q u s := ⟨v, H, I, ru, hp.here R q⟩
end
end Uk
end
section
set_option Elab.async false
set_option linter.all false
set_option maxRecDepth 100000
set_option autoImplicit false
set_option maxHeartbeats 1000000
namespace Uk
open PySem PySem.Spec PyProof.Rows L2
/-! ## Dicts keyed by ints and texts -/
def keyOf : D → Option Key
  | .int i => some (.inl i)
  | .str s => some (.inr (sS s))
  | _ => none
theorem keyOf_some {d : D} (h : d.keyK = true) : ∃ k, keyOf d = some k := by
  cases d <;> first | exact ⟨_, rfl⟩ | cases h
theorem key_eqv {a b : D} {ka kb : Key} (ha : keyOf a = some ka) (hb : keyOf b = some kb) : D.eqv a b = decide (ka = kb) := by
  cases a with
  | int i =>
    cases ha
    cases b with
    | int j =>
      cases hb
      rw [key_ll]
      simp only [D.eqv]
    | str s =>
      cases hb
      rw [key_lr]
      simp only [D.eqv]
    | _ => cases hb
  | str s =>
    cases ha
    cases b with
    | int j =>
      cases hb
      rw [key_rl]
      simp only [D.eqv]
    | str s' =>
      cases hb
      rw [key_rr]
      simp only [D.eqv]
      by_cases h : s = s'
      · subst h; simp
      · rw [decide_eq_false fun z => h (sS_inj z)]
        simp [h]
    | _ => cases hb
  | _ => cases ha
section
variable {K : PySem.W.Frag} {r : List Addr} {H : Hp}
theorem VR.key {d : D} {k : Key} (h : VR K r H d (kV k)) : keyOf d = some k := by
  cases d with
  | non => have := h.non_inv; cases k <;> cases this
  | bl b => have := h.bl_inv; cases k <;> cases this
  | int i =>
    have := h.int_inv
    cases k with
    | inl j => cases this; rfl
    | inr j => cases this
  | str s =>
    have := h.str_inv
    cases k with
    | inl j => cases this
    | inr j => cases this; rfl
  | tup xs => obtain ⟨_, _, e, _⟩ := h.tup_inv; cases k <;> cases e
  | ref i => obtain ⟨_, _, e⟩ := h.ref_inv; cases k <;> cases e
  | fro xs => obtain ⟨_, _, e, _⟩ := h.fro_inv; cases k <;> cases e
theorem key_val {d : D} {k : Key} {v : V} (hk : keyOf d = some k) (h : VR K r H d v) : v = kV k := by
  cases d with
  | int i => cases hk; exact h.int_inv
  | str s => cases hk; exact h.str_inv
  | _ => cases hk
theorem key_rel {d : D} {k : Key} (hk : keyOf d = some k) : VR K r H d (kV k) := by
  cases d with
  | int i => cases hk; exact .int
  | str s => cases hk; exact .str
  | _ => cases hk
theorem PRs.length {kvs : List (D × D)} {ps : List (Key × V)} (h : PRs K r H kvs ps) : kvs.length = ps.length := Paired.length h
theorem PRs.look {k : D} {kk : Key} (hk : keyOf k = some kk) : ∀ {kvs : List (D × D)} {ps : List (Key × V)}, PRs K r H kvs ps → match lookD k kvs with
    | some d => ∃ v, valV ps kk = some v ∧ VR K r H d v
    | none => valV ps kk = none
  | _, _, .nil => rfl
  | _, _, .cons (a := p) (b := q) h t => by
    have e := key_eqv h.1.key hk
    unfold lookD
    rw [e]
    by_cases h2 : q.1 = kk
    · rw [decide_eq_true h2, if_pos rfl, valV_pos h2]
      exact ⟨_, rfl, h.2⟩
    · rw [decide_eq_false h2, if_neg Bool.false_ne_true, valV_neg h2]
      exact PRs.look hk t
theorem PRs.any {k : D} {kk : Key} (hk : keyOf k = some kk) : ∀ {kvs : List (D × D)} {ps : List (Key × V)}, PRs K r H kvs ps → (kvs.any fun p => D.eqv p.1 k) = ps.any fun kv => decide (kv.1 = kk)
  | _, _, .nil => rfl
  | _, _, .cons (a := p) (b := q) h t => by
    rw [List.any_cons, List.any_cons, key_eqv h.1.key hk, PRs.any hk t]
theorem PRs.repl {k d : D} {kk : Key} {v : V} (hk : keyOf k = some kk) (hd : VR K r H d v) : ∀ {kvs : List (D × D)} {ps : List (Key × V)}, PRs K r H kvs ps → PRs K r H (kvs.map fun p => if D.eqv p.1 k then (p.1, d) else p) (ps.map fun kv => if kv.1 = kk then (kv.1, v) else kv)
  | _, _, .nil => .nil
  | _, _, .cons (a := p) (b := q) h t => by
    rw [List.map_cons, List.map_cons, key_eqv h.1.key hk]
    refine .cons ?_ (PRs.repl hk hd t)
    by_cases h2 : q.1 = kk
    · rw [decide_eq_true h2, if_pos rfl, if_pos h2]
      exact ⟨h.1, hd⟩
    · rw [decide_eq_false h2, if_neg Bool.false_ne_true, if_neg h2]
      exact h
theorem paired_snoc {α β : Type} {F : α → β → Prop} {x : α} {y : β} (h : F x y) : ∀ {l : List α} {m : List β}, Paired F l m → Paired F (l ++ [x]) (m ++ [y])
  | _, _, .nil => .cons h .nil
  | _, _, .cons a t => .cons a (paired_snoc h t)
theorem PRs.put {k d : D} {kk : Key} {v : V} (hk : keyOf k = some kk) (hd : VR K r H d v) {kvs : List (D × D)} {ps : List (Key × V)} (h : PRs K r H kvs ps) : PRs K r H (putD k d kvs) (putK ps kk v) := by
  unfold putD putK
  rw [h.any hk]
  split
  · exact h.repl hk hd
  · exact paired_snoc ⟨key_rel hk, hd⟩ h
end
/-! ### a displayed dict -/
def flatV : List (V × V) → List V
  | [] => []
  | p :: r => p.1 :: p.2 :: flatV r
section
variable {X : L2.Cx} {E : L2.St → XK}
def trsOf (c : Cx) (E : L2.St → XK) (X : L2.Cx) : Ps → List (TE × TE)
  | .n => []
  | .c k v r => (LE X E (ev c k), LE X E (ev c v)) :: trsOf c E X r
/-- a part is run within pairs -/
theorem LE.bindP {σ : L2.St} {m : Env → G → R D} {r : List Addr} {H : Hp} {g : G} {e : Env} (R : Rel X.K X.mg r g H) (er : ER X.K r H e σ) {k : D → G → Uk.R (List D)} {Q : List V → Hp → Prop} {Q' : VK} (hp : PostA X.K X.mg (E σ) r H ((m e g).bind k) Q)
    (next : ∀ (r1 : List Addr) (g1 : G) (H1 : Hp) (d : D) (v : V), Ext r H r1 H1 → Rel X.K X.mg r1 g1 H1 → ER X.K r1 H1 e σ → VR X.K r1 H1 d v → PostA X.K X.mg (E σ) r1 H1 (k d g1) Q → Q' v H1) : LE X E m σ H Q' := by
  refine ⟨r, g, e, R, er, ?_⟩
  cases hm : m e g with
  | ok d g1 =>
    rw [hm] at hp
    have hp : PostA X.K X.mg (E σ) r H (k d g1) Q := hp
    intro r1 v H1 x R1 q
    refine next r1 g1 H1 d v x R1 (er.mono x) q ?_
    cases hk : k d g1 with
    | ok a b => rw [hk] at hp; exact fun r' v H' y R' q => hp r' v H' (x.trans y) R' q
    | exc a b => rw [hk] at hp; exact fun r' H' c d y R' q => hp r' H' c d (x.trans y) R' q
    | bad => rw [hk] at hp; exact hp
  | exc y g1 =>
    rw [hm] at hp
    exact hp
  | bad =>
    rw [hm] at hp
    exact hp.elim
theorem pairs_run {c : Cx} {σ : L2.St} {e : Env} : ∀ (ps : Ps) (r : List Addr) (H : Hp) (g : G) (Q : List V → Hp → Prop), Rel X.K X.mg r g H → ER X.K r H e σ → PostA X.K X.mg (E σ) r H (evP c ps e g) Q → tPairs (trsOf c E X ps) σ H fun prs H' => Q (flatV prs) H'
  | .n, r, H, g, Q, R, er, hp => hp r [] H (.refl _ _) R (VRs.nil_iff.mpr rfl)
  | .c k v rest, r, H, g, Q, R, er, hp => by
    show LE X E (ev c k) σ H fun x H1 => LE X E (ev c v) σ H1 fun y H2 => tPairs (trsOf c E X rest) σ H2 fun ps H3 => Q (flatV ((x, y) :: ps)) H3
    refine LE.bindP R er hp fun r1 g1 H1 d x x1 R1 er1 q1 hp => ?_
    refine LE.bindP R1 er1 hp fun r2 g2 H2 d2 y x2 R2 er2 q2 hp => ?_
    refine pairs_run rest r2 H2 g2 (fun vs H' => Q (x :: y :: vs) H') R2 er2 ?_
    cases hm : evP c rest e g2 with
    | ok ds g3 =>
      rw [hm] at hp
      exact fun r3 vs H3 x3 R3 q3 => hp r3 _ H3 x3 R3 (.cons (VR.mono (x2.trans x3) _ _ q1) (.cons (VR.mono x3 _ _ q2) q3))
    | exc y g3 => rw [hm] at hp; exact hp
    | bad => rw [hm] at hp; exact hp
theorem flat_keys {K : PySem.W.Frag} {r : List Addr} {H : Hp} : ∀ {ds : List D} {prs : List (V × V)}, VRs K r H ds (flatV prs) → keysK ds = true → ∃ kvs : List (Key × V), prs = kvs.map (fun kv => (kV kv.1, kv.2)) ∧ ds.length = 2 * kvs.length ∧
    ∀ {acc : List (D × D)} {ps : List (Key × V)} {out : List (D × D)}, PRs K r H acc ps → mergeD acc ds = some out → PRs K r H out (kvs.foldl (fun acc kv => putK acc kv.1 kv.2) ps)
  | ds, [], h, _ => by
    cases ds with
    | nil => exact ⟨[], rfl, rfl, fun h e => by cases e; exact h⟩
    | cons _ _ => obtain ⟨_, _, e, _⟩ := h.inv; cases e
  | ds, p :: prs, h, hk => by
    match ds, h, hk with
    | [], h, _ => have := VRs.nil_iff.mp h; cases this
    | [_], h, _ =>
      obtain ⟨_, _, e, _, h2⟩ := h.inv
      have e : p.1 :: p.2 :: flatV prs = _ := e
      rw [VRs.nil_iff.mp h2] at e
      cases e
    | k :: d :: ds, h, hk =>
      obtain ⟨_, _, e, h1, h2⟩ := h.inv
      obtain ⟨_, _, e2, h3, h4⟩ := h2.inv
      subst e2
      have e : p.1 :: p.2 :: flatV prs = _ := e
      injection e with e1 e
      injection e with e2 e3
      subst e3
      rw [← e1] at h1
      rw [← e2] at h3
      have hk : (k.keyK && keysK ds) = true := hk
      rw [Bool.and_eq_true] at hk
      obtain ⟨kk, hkk⟩ := keyOf_some hk.1
      obtain ⟨kvs, q1, q2, q3⟩ := flat_keys h4 hk.2
      refine ⟨(kk, p.2) :: kvs, ?_, by simp [q2]; omega, ?_⟩
      · rw [q1, List.map_cons, ← key_val hkk h1]
      · intro acc ps out ha he
        have he : mergeD (putD k d acc) ds = some out := he
        exact q3 (ha.put hkk h3) he
theorem trs_mono {c : Cx} : ∀ (ps : Ps), ∀ t ∈ trsOf c E X ps, ∀ σ H (Q Q' : VK), (∀ v H, Q v H → Q' v H) → (t.1 σ H Q → t.1 σ H Q') ∧ (t.2 σ H Q → t.2 σ H Q')
  | .n, t, ht => by cases ht
  | .c k v r, t, ht => by
    rcases List.mem_cons.mp ht with h | h
    · subst h
      exact fun σ H Q Q' k => ⟨fun ⟨r, g, e, R, er, q⟩ => ⟨r, g, e, R, er, q.mono (.refl _ _) k⟩, fun ⟨r, g, e, R, er, q⟩ => ⟨r, g, e, R, er, q.mono (.refl _ _) k⟩⟩
    · exact trs_mono r t h
/-- {k: v, ..} -/
theorem pe_dspD {c : Cx} {ps : Ps} {keys : List (Option PySem.Expr)} {values : List PySem.Expr} {pos : Pos} (h : PPs X pos keys values (trsOf c E X ps)) (hall : keys.all (·.isSome) = true) (hl : keys.length = values.length) (h0 : keys ≠ []) (h15 : keys.length ≤ 15) :
    PE X (.Dict keys values pos) (LE X E (ev c (.dsp false ps))) := by
  refine ⟨fun pins s σ H Q I ⟨r, g, e, R, er, hp⟩ => (pe_disp h hall hl h0 h15).run pins s σ H Q I fun p hn => ?_⟩
  have hp : Post X.K X.mg (E σ) r H ((evP c ps e (g ++ [.dK []])).bind fun ds g' => mkD g.length ds g') Q := hp
  have R1 : Rel X.K X.mg (r ++ [p]) (g ++ [.dK []]) (upd H p (.dK [])) := R.new hn ⟨[], upd_same, .nil⟩
  have x1 : Ext r H (r ++ [p]) (upd H p (.dK [])) := .newR hn
  have ep : (r ++ [p])[g.length]? = some p := by rw [← R.len]; exact get_last
  let Qp : List V → Hp → Prop := fun vs H2 => ∀ prs, vs = flatV prs → H2 p = some (.dK []) ∧ ∃ kvs : List (Key × V), prs = kvs.map (fun kv => (kV kv.1, kv.2)) ∧ kvs.length ≤ 15 ∧ Q (.ref p) (upd H2 p (.dK (mergeK [] kvs)))
  have hA : PostA X.K X.mg (E σ) (r ++ [p]) (upd H p (.dK [])) (evP c ps e (g ++ [.dK []])) Qp := by
    cases hm : evP c ps e (g ++ [.dK []]) with
    | bad => rw [hm] at hp; exact hp.elim
    | exc y g2 =>
      rw [hm] at hp
      exact fun r' H' c d y R' q => hp r' H' c d (x1.trans y) R' q
    | ok ds g2 =>
      rw [hm] at hp
      have hp : Post X.K X.mg (E σ) r H (mkD g.length ds g2) Q := hp
      intro r2 vs H2 x2 R2 q2 prs ev
      subst ev
      unfold mkD at hp
      cases ho : g2[g.length]? with
      | none => rw [ho] at hp; exact hp.elim
      | some o =>
        rw [ho] at hp
        cases o with
        | dK kvs0 =>
          cases kvs0 with
          | cons _ _ => exact hp.elim
          | nil =>
            dsimp only at hp
            split at hp
            · rename_i hk
              have ep2 : r2[g.length]? = some p := x2.get ep
              obtain ⟨ps0, h1, h2⟩ := R2.at_ g.length p _ ep2 ho
              cases h2
              obtain ⟨kvs, q3, q4, q5⟩ := flat_keys q2 hk.1
              refine ⟨h1, kvs, q3, by omega, ?_⟩
              cases hme : mergeD [] ds with
              | none => rw [hme] at hp; exact hp.elim
              | some out =>
                rw [hme] at hp
                have hp : Post X.K X.mg (E σ) r H (.ok (.ref g.length) (g2.set g.length (.dK out))) Q := hp
                have x3 : Ext r2 H2 r2 (upd H2 p (.dK (mergeK [] kvs))) := .put h1 trivial
                refine hp r2 _ _ ((x1.trans x2).trans x3) ?_ (.ref ep2)
                exact R2.put ep2 h1 trivial ⟨_, upd_same, (q5 .nil hme).mono x3⟩
            · exact hp.elim
        | _ => exact hp.elim
  have fin := pairs_run ps _ _ _ Qp R1 (er.mono x1) hA
  have mono : ∀ (trs : List (TE × TE)) (σ : L2.St) (H : Hp) (A B : List (V × V) → Hp → Prop), (∀ a b, A a b → B a b) → (∀ t ∈ trs, ∀ σ H (Q Q' : VK), (∀ v H, Q v H → Q' v H) → (t.1 σ H Q → t.1 σ H Q') ∧ (t.2 σ H Q → t.2 σ H Q')) → tPairs trs σ H A → tPairs trs σ H B := by
    intro trs
    induction trs with
    | nil => intro σ H A B k _ h; exact k _ _ h
    | cons t trs ih =>
      intro σ H A B k m h
      refine (m t List.mem_cons_self σ H _ _ fun v H1 q => ?_).1 h
      refine (m t List.mem_cons_self σ H1 _ _ fun v H2 q => ?_).2 q
      exact ih σ H2 _ _ (fun a b q => k _ _ q) (fun t ht => m t (List.mem_cons_of_mem _ ht)) q
  exact mono _ _ _ _ _ (fun prs H2 q => q prs rfl) (trs_mono ps) fin
/-! ### reading and writing -/
theorem dget_ok {r : List Addr} {g : G} {H : Hp} {a : Addr} {kvs : List (D × D)} {k d : D} {kk : Key} (hk : keyOf k = some kk) (h : OR X.K X.mg r H a (.dK kvs)) (hl : lookD k kvs = some d) : ∃ v, DGet H a (kV kk) (some v) ∧ VR X.K r H d v := by
  obtain ⟨ps, h1, h2⟩ := h
  have := h2.look hk
  rw [hl] at this
  obtain ⟨v, e, q⟩ := this
  exact ⟨v, by rw [← e]; exact DGet.k h1, q⟩
theorem din_ok {r : List Addr} {H : Hp} {a : Addr} {kvs : List (D × D)} {k : D} {kk : Key} (hk : keyOf k = some kk) (h : OR X.K X.mg r H a (.dK kvs)) : ∃ o, DGet H a (kV kk) o ∧ o.isSome = (lookD k kvs).isSome := by
  obtain ⟨ps, h1, h2⟩ := h
  refine ⟨_, DGet.k h1, ?_⟩
  have := h2.look hk
  cases hl : lookD k kvs with
  | none => rw [hl] at this; rw [this]; rfl
  | some d => rw [hl] at this; obtain ⟨v, e, _⟩ := this; rw [e]; rfl
end
end Uk
end
section
set_option Elab.async false
set_option linter.all false
set_option maxRecDepth 100000
set_option autoImplicit false
set_option maxHeartbeats 1000000
namespace Uk
open PySem PySem.Spec PyProof.Rows L2
/-! ## == -/
theorem eqvAll_len : ∀ {xs ys : List PyData}, xs.length ≠ ys.length → PyData.eqvAll xs ys = false
  | [], [], h => absurd rfl h
  | [], _ :: _, _ => by simp only [PyData.eqvAll]
  | _ :: _, [], _ => by simp only [PyData.eqvAll]
  | x :: xs, y :: ys, h => by
    simp only [PyData.eqvAll]
    rw [eqvAll_len (fun z => h (by simp [z])), Bool.and_false]
theorem pyDs_length : ∀ ds : List D, (pyDs ds).length = ds.length
  | [] => by unfold pyDs; rfl
  | d :: ds => by unfold pyDs; simp [pyDs_length ds]
theorem eqv_list_data {ds : List PyData} : ∀ d : D, d.dep ≤ 60 → PyData.eqv (.list ds) (pyD d) = false ∧ PyData.eqv (pyD d) (.list ds) = false
  | .non, _ => by unfold pyD; simp only [PyData.eqv]; exact ⟨trivial, trivial⟩
  | .bl _, _ => by unfold pyD; simp only [PyData.eqv]; exact ⟨trivial, trivial⟩
  | .int _, _ => by unfold pyD; simp only [PyData.eqv]; exact ⟨trivial, trivial⟩
  | .str _, _ => by unfold pyD; simp only [PyData.eqv]; exact ⟨trivial, trivial⟩
  | .tup _, _ => by unfold pyD; simp only [PyData.eqv]; exact ⟨trivial, trivial⟩
  | .ref _, h => absurd h (by unfold D.dep; omega)
  | .fro _, h => absurd h (by unfold D.dep; omega)
section
variable {K : PySem.W.Frag} {mg : Str → Option Value} {r : List Addr} {g : G} {H : Hp}
/-- two things that are compared: their data -/
def Two (K : PySem.W.Frag) (H : Hp) (n : Nat) (v w : V) (b : Bool) : Prop := ∃ p q, Dp K H v p ∧ Dp K H w q ∧ p.canLay0 = true ∧ q.canLay0 = true ∧ p.depth ≤ 60 + n ∧ q.depth ≤ 60 + n ∧ PyData.eqv p q = b
def TwoL (K : PySem.W.Frag) (H : Hp) (n : Nat) (vs ws : List V) (b : Bool) : Prop := ∃ p q, DpAll K H vs p ∧ DpAll K H ws q ∧ PyData.canLayAll0 p = true ∧ PyData.canLayAll0 q = true ∧ PyData.depthAll p ≤ 60 + n ∧ PyData.depthAll q ≤ 60 + n ∧ PyData.eqvAll p q = b
theorem two_ls {n : Nat} {f : D → D → Option Bool} (hf : ∀ x y b v w, f x y = some b → VR K r H x v → VR K r H y w → Two K H n v w b) : ∀ (xs ys : List D) (b : Bool) (vs ws : List V), eqLs f xs ys = some b → VRs K r H xs vs → VRs K r H ys ws → TwoL K H n vs ws b
  | [], [], b, vs, ws, h, hv, hw => by
    cases h
    rw [VRs.nil_iff.mp hv, VRs.nil_iff.mp hw]
    exact ⟨[], [], .nil, .nil, by simp only [PyData.canLayAll0], by simp only [PyData.canLayAll0], by simp only [PyData.depthAll]; omega, by simp only [PyData.depthAll]; omega, by simp only [PyData.eqvAll]⟩
  | [], _ :: _, b, vs, ws, h, _, _ => by cases h
  | _ :: _, [], b, vs, ws, h, _, _ => by cases h
  | x :: xs, y :: ys, b, vs, ws, h, hv, hw => by
    obtain ⟨v, vs, rfl, h1, h2⟩ := hv.inv
    obtain ⟨w, ws, rfl, h3, h4⟩ := hw.inv
    unfold eqLs at h
    split at h
    · rename_i b1 b2 e1 e2
      cases h
      obtain ⟨p, q, d1, d2, c1, c2, m1, m2, e⟩ := hf x y b1 v w e1 h1 h3
      obtain ⟨ps, qs, d3, d4, c3, c4, m3, m4, e'⟩ := two_ls hf xs ys b2 vs ws e2 h2 h4
      refine ⟨p :: ps, q :: qs, .cons d1 d3, .cons d2 d4, ?_, ?_, ?_, ?_, ?_⟩
      · simp only [PyData.canLayAll0, c1, c3, Bool.and_self]
      · simp only [PyData.canLayAll0, c2, c4, Bool.and_self]
      · simp only [PyData.depthAll]; omega
      · simp only [PyData.depthAll]; omega
      · simp only [PyData.eqvAll, e, e']
    · cases h
theorem two_data {x y : D} {v w : V} {n : Nat} (hx : VR K r H x v) (hy : VR K r H y w) (h1 : x.dep ≤ 60) (h2 : y.dep ≤ 60) : Two K H n v w (D.eqv x y) :=
  ⟨pyD x, pyD y, VR.dp x v hx h1, VR.dp y w hy h2, pyD_lay x, pyD_lay y, by have := pyD_dep x; omega, by have := pyD_dep y; omega, pyD_eqv x y h1 h2⟩
theorem dp_list {xs : List D} {a : Addr} {vs : List V} (h1 : H a = some (.lst vs)) (h2 : VRs K r H xs vs) (h : D.deps xs ≤ 60) : Dp K H (.ref a) (.list (pyDs xs)) := .lst (.of h1) (VRs.dp xs vs h2 h)
theorem two_lists {xs ys : List D} {v w : V} {a b : Nat} {n : Nat} (R : Rel K mg r g H) (hx : VR K r H (.ref a) v) (hy : VR K r H (.ref b) w) (ea : lsOf g a = some xs) (eb : lsOf g b = some ys) (h1 : D.deps xs ≤ 60) (h2 : D.deps ys ≤ 60) (hl : xs.length ≠ ys.length) :
    Two K H (n + 1) v w false := by
  obtain ⟨p, vs, _, rfl, h3, h4⟩ := R.lst ea hx
  obtain ⟨q, ws, _, rfl, h5, h6⟩ := R.lst eb hy
  refine ⟨_, _, dp_list h3 h4 h1, dp_list h5 h6 h2, ?_, ?_, ?_, ?_, ?_⟩
  · simp only [PyData.canLay0]; exact pyDs_lay xs
  · simp only [PyData.canLay0]; exact pyDs_lay ys
  · simp only [PyData.depth]; have := pyDs_dep xs; omega
  · simp only [PyData.depth]; have := pyDs_dep ys; omega
  · simp only [PyData.eqv]
    exact eqvAll_len (by rw [pyDs_length, pyDs_length]; exact hl)
theorem eqF_two (R : Rel K mg r g H) : ∀ (n : Nat) (x y : D) (b : Bool) (v w : V), eqF g n x y = some b → VR K r H x v → VR K r H y w → Two K H n v w b
  | 0, _, _, _, _, _, h, _, _ => by cases h
  | n + 1, x, y, b, v, w, h, hx, hy => by
    have okd : ∀ {d : D}, d.ok = true → d.dep ≤ 60 := fun h => of_decide_eq_true h
    have oks : ∀ {d : List D}, oksB d = true → D.deps d ≤ 60 := fun h => of_decide_eq_true h
    have dat : (if (x.ok && y.ok) = true then some (D.eqv x y) else none) = some b → Two K H (n + 1) v w b := fun h => by
      split at h
      · rename_i c
        cases h
        rw [Bool.and_eq_true] at c
        exact two_data hx hy (okd c.1) (okd c.2)
      · cases h
    cases x with
    | ref i =>
      cases y with
      | ref j =>
        have h : (match lsOf g i, lsOf g j with
          | some xs, some ys => if xs.length = ys.length then eqLs (eqF g n) xs ys else if (oksB xs && oksB ys) = true then some false else none
          | _, _ => none) = some b := h
        split at h
        · rename_i xs ys e1 e2
          split at h
          · obtain ⟨p, vs, _, rfl, h3, h4⟩ := R.lst e1 hx
            obtain ⟨q, ws, _, rfl, h5, h6⟩ := R.lst e2 hy
            obtain ⟨ps, qs, d3, d4, c3, c4, m3, m4, e'⟩ := two_ls (fun x y b v w => eqF_two R n x y b v w) xs ys b vs ws h h4 h6
            refine ⟨.list ps, .list qs, .lst (.of h3) d3, .lst (.of h5) d4, ?_, ?_, ?_, ?_, ?_⟩
            · simp only [PyData.canLay0]; exact c3
            · simp only [PyData.canLay0]; exact c4
            · simp only [PyData.depth]; omega
            · simp only [PyData.depth]; omega
            · simp only [PyData.eqv]; exact e'
          · rename_i hl
            split at h
            · rename_i c
              cases h
              rw [Bool.and_eq_true] at c
              exact two_lists R hx hy e1 e2 (oks c.1) (oks c.2) hl
            · cases h
        · cases h
      | _ =>
        have h : (match lsOf g i with
          | some xs => if (oksB xs && D.ok _) = true then some false else none
          | none => none) = some b := h
        split at h
        · rename_i xs e1
          split at h
          · rename_i c
            cases h
            rw [Bool.and_eq_true] at c
            obtain ⟨p, vs, _, rfl, h3, h4⟩ := R.lst e1 hx
            refine ⟨_, _, dp_list h3 h4 (oks c.1), VR.dp _ w hy (okd c.2), ?_, pyD_lay _, ?_, ?_, (eqv_list_data _ (okd c.2)).1⟩
            · simp only [PyData.canLay0]; exact pyDs_lay xs
            · simp only [PyData.depth]; have := pyDs_dep xs; have := oks c.1; omega
            · have h7 := okd c.2; refine Nat.le_trans (pyD_dep _) ?_; omega
          · cases h
        · cases h
    | _ =>
      cases y with
      | ref j =>
        have h : (match lsOf g j with
          | some xs => if (oksB xs && D.ok _) = true then some false else none
          | none => none) = some b := h
        split at h
        · rename_i xs e1
          split at h
          · rename_i c
            cases h
            rw [Bool.and_eq_true] at c
            obtain ⟨p, vs, _, rfl, h3, h4⟩ := R.lst e1 hy
            refine ⟨_, _, VR.dp _ v hx (okd c.2), dp_list h3 h4 (oks c.1), pyD_lay _, ?_, ?_, ?_, (eqv_list_data _ (okd c.2)).2⟩
            · simp only [PyData.canLay0]; exact pyDs_lay xs
            · have h7 := okd c.2; refine Nat.le_trans (pyD_dep _) ?_; omega
            · simp only [PyData.depth]; have := pyDs_dep xs; have := oks c.1; omega
          · cases h
        · cases h
      | _ => exact dat h
end
section
variable {X : L2.Cx} {ck : Arguments → List Stmt → Scope → FDef → Bool} {c : Cx} {N : List String} {sc : Scope} {E : XK} {ES : L2.St → XK} {r : List Addr} {H : Hp} {g : G} {Q : VK} {pins : List (Addr × Obj)} {s : Shared} {σ : L2.St} {v w : V} {a b : Value} {x y : D}
theorem XOk.units (O : XOk X ck c N sc ES) : X.A.units + 200 < cLine := by
  obtain ⟨n, hr, _⟩ := O.room
  have := hr.un
  omega
theorem shaped_of {p : PyData} (h1 : p.canLay0 = true) (h2 : p.depth ≤ 64) : SeqAt.shaped p = true := by
  show (p.canLay0 && decide (p.depth ≤ 64)) = true
  rw [h1, Bool.true_and]
  exact decide_eq_true h2
theorem eq_data (O : XOk X ck c N sc ES) (I : Inv X pins σ H s) (R : Rel X.K X.mg r g H) (hx : VR X.K r H x v) (hy : VR X.K r H y w) (ra : RelV v a) (rb : RelV w b) {z : Bool} (hz : eqF g 4 x y = some z) :
    (∀ Q : VK, Q (.bl z) H → wpAny (model X.prog X.w) X.A (compareOp .Eq a b) (EP X pins σ Q) X.xe s) ∧ (∀ Q : VK, Q (.bl (!z)) H → wpAny (model X.prog X.w) X.A (compareOp .NotEq a b) (EP X pins σ Q) X.xe s) := by
  obtain ⟨p, q, d1, d2, c1, c2, m1, m2, e⟩ := eqF_two R 4 x y z v w hz hx hy
  have u := O.units
  refine ⟨fun Q h => op_eqD (by omega) pins s σ H v w a b Q I ra rb ⟨p, q, d1, d2, shaped_of c1 (by omega), shaped_of c2 (by omega), by rw [e]; exact h⟩,
    fun Q h => op_neD (by omega) pins s σ H v w a b Q I ra rb ⟨p, q, d1, d2, shaped_of c1 (by omega), shaped_of c2 (by omega), by rw [e]; exact h⟩⟩
theorem pyDs_any {x : D} (hx : x.dep ≤ 60) : ∀ {ys : List D}, D.deps ys ≤ 60 → ((pyDs ys).any fun z => PyData.eqv z (pyD x)) = ys.any fun z => D.eqv z x
  | [], _ => by unfold pyDs; rfl
  | y :: ys, h => by
    unfold D.deps at h
    unfold pyDs
    rw [List.any_cons, List.any_cons, pyD_eqv y x (by omega) hx, pyDs_any hx (by omega)]
/-- in, not in -/
theorem in_data (O : XOk X ck c N sc ES) (I : Inv X pins σ H s) (R : Rel X.K X.mg r g H) (hx : VR X.K r H x v) (hy : VR X.K r H y w) (ra : RelV v a) (rb : RelV w b) {z : Bool} (hz : inOp x y g = some z) :
    (∀ Q : VK, Q (.bl z) H → wpAny (model X.prog X.w) X.A (compareOp .In a b) (EP X pins σ Q) X.xe s) ∧ (∀ Q : VK, Q (.bl (!z)) H → wpAny (model X.prog X.w) X.A (compareOp .NotIn a b) (EP X pins σ Q) X.xe s) := by
  have u := O.units
  have okd : ∀ {d : D}, d.ok = true → d.dep ≤ 60 := fun h => of_decide_eq_true h
  have oks : ∀ {d : List D}, oksB d = true → D.deps d ≤ 60 := fun h => of_decide_eq_true h
  cases y with
  | tup ys =>
    have hz : (if (x.ok && oksB ys) = true then some (ys.any fun z => D.eqv z x) else none) = some z := hz
    split at hz
    · rename_i k
      cases hz
      rw [Bool.and_eq_true] at k
      obtain ⟨p, vs, rfl, h1, h2⟩ := hy.tup_inv
      have hd := VR.dp x v hx (okd k.1)
      have hds : Dp X.K H (.ref p) (.tuple (pyDs ys)) := .tup h1 (VRs.dp ys vs h2 (oks k.2))
      obtain ⟨as, r1⟩ := Dp.reads I _ v a hd ra
      obtain ⟨bs, r2⟩ := Dp.reads I _ _ b hds rb
      have sx := pyD_shaped (okd k.1)
      have rm := room_in_shaped (A := X.A) (xs := pyDs ys) sx (by omega)
      refine ⟨fun Q h => SeqAt.in_tuple_reads r2 r1 (pyDs_lay ys) (pyD_lay x) rm ⟨.bl _, H, I, rfl, ?_⟩, fun Q h => SeqAt.notIn_tuple_reads r2 r1 (pyDs_lay ys) (pyD_lay x) rm ⟨.bl _, H, I, rfl, ?_⟩⟩
      · rw [pyDs_any (okd k.1) (oks k.2)]; exact h
      · rw [pyDs_any (okd k.1) (oks k.2)]; exact h
    · cases hz
  | ref j =>
    obtain ⟨p, e, rfl⟩ := hy.ref_inv
    obtain ⟨o, ho, oo⟩ := R.get e
    unfold inOp at hz
    dsimp only at hz
    rw [ho] at hz
    cases o with
    | lst ys =>
      dsimp only at hz
      split at hz
      · rename_i k
        cases hz
        rw [Bool.and_eq_true] at k
        obtain ⟨vs, h1, h2⟩ := oo
        have hd := VR.dp x v hx (okd k.1)
        have hds := dp_list (K := X.K) h1 h2 (oks k.2)
        refine ⟨fun Q h => op_inD (by omega) pins s σ H v _ a b Q I ra rb ⟨_, _, hd, hds, pyD_shaped (okd k.1), pyDs_shapedL (oks k.2), ?_⟩, fun Q h => op_notInD (by omega) pins s σ H v _ a b Q I ra rb ⟨_, _, hd, hds, pyD_shaped (okd k.1), pyDs_shapedL (oks k.2), ?_⟩⟩
        · rw [pyDs_any (okd k.1) (oks k.2)]; exact h
        · rw [pyDs_any (okd k.1) (oks k.2)]; exact h
      · cases hz
    | dK kvs =>
      have hk : ∃ kk, keyOf x = some kk ∧ (lookD x kvs).isSome = z := by
        cases x <;> first
          | (cases hz; done)
          | (refine ⟨_, rfl, ?_⟩; exact Option.some.inj hz)
      obtain ⟨kk, hk, rfl⟩ := hk
      obtain ⟨o2, g2, e2⟩ := din_ok hk oo
      have ev := key_val hk hx
      subst ev
      obtain rfl : b = Value.ref p := rb
      rw [← e2]
      exact ⟨fun Q h => d_in (by omega) I g2 ra fun s1 I1 => ⟨.bl _, H, I1, rfl, h⟩, fun Q h => d_notIn (by omega) I g2 ra fun s1 I1 => ⟨.bl _, H, I1, rfl, h⟩⟩
    | dT kvs => exact oo.elim
    | ins _ _ => cases hz
  | _ => cases hz
/-- an own == , !=: by the class's def; here only where a side is an instance -/
def EqIns (X : L2.Cx) (c : Cx) (E : XK) : Prop := ∀ (pins : List (Addr × Obj)) (s : Shared) (σ : L2.St) (H : Hp) (r : List Addr) (g : G) (i : Nat) (k : String) (fs : List (String × D)) (y : D) (v w : V) (a b : Value) (Q : VK), Inv X pins σ H s → Rel X.K X.mg r g H →
  g[i]? = some (.ins k fs) → VR X.K r H (.ref i) v → VR X.K r H y w → RelV v a → RelV w b →
    (Post X.K X.mg E r H ((eqOp c (.ref i) y g).bind fun b g => .ok (.bl b) g) Q → wpAny (model X.prog X.w) X.A (compareOp .Eq a b) (EP X pins σ Q) X.xe s) ∧
    (neOk g (.ref i) y = true → Post X.K X.mg E r H ((eqOp c (.ref i) y g).bind fun b g => .ok (.bl (!b)) g) Q → wpAny (model X.prog X.w) X.A (compareOp .NotEq a b) (EP X pins σ Q) X.xe s)
theorem eqOp_case (x y : D) (g : G) (c : Cx) : (∃ i k fs, x = .ref i ∧ g[i]? = some (.ins k fs)) ∨ (eqOp c x y g = match eqF g 4 x y with
    | some b => .ok b g
    | none => .bad) := by
  cases x with
  | ref i =>
    cases h : g[i]? with
    | none => right; simp only [eqOp, h]; try rfl
    | some o =>
      cases o with
      | ins k fs => exact .inl ⟨i, k, fs, rfl, h⟩
      | _ => right; simp only [eqOp, h]; try rfl
  | _ => right; rfl
theorem cmp_ok (O : XOk X ck c N sc ES) (EI : EqIns X c E) {o : Cop} {e : Uk.E} (hn : isnOk o e = true) (hw : isnC e = true → w = .non) (I : Inv X pins σ H s) (R : Rel X.K X.mg r g H) (hx : VR X.K r H x v) (hy : VR X.K r H y w) (ra : RelV v a) (rb : RelV w b)
    (hp : Post X.K X.mg E r H (cmpop c o x y g) Q) : wpAny (model X.prog X.w) X.A (compareOp (copOp o) a b) (EP X pins σ Q) X.xe s := by
  have ord : ∀ {op : CmpOp} {f : Int → Int → Bool}, OpR X (compareOp op) (rI0 fun i j => .bl (f i j)) → Post X.K X.mg E r H (ordI f x y g) Q → wpAny (model X.prog X.w) X.A (compareOp op a b) (EP X pins σ Q) X.xe s := fun {op f} ho hp => by
    cases x with
    | int i =>
      cases y with
      | int j =>
        rw [hx.int_inv] at ra
        rw [hy.int_inv] at rb
        exact ho pins s σ H _ _ a b Q I ra rb ⟨i, j, rfl, rfl, Post.here hp R .bl⟩
      | _ => exact hp.elim
    | _ => cases y <;> exact hp.elim
  have hv : x.isNon = decide (v = .non) := by
    cases x with
    | non => rw [hx.non_inv]; rfl
    | bl _ => rw [hx.bl_inv]; rfl
    | int _ => rw [hx.int_inv]; rfl
    | str _ => rw [hx.str_inv]; rfl
    | tup _ => obtain ⟨_, _, e, _⟩ := hx.tup_inv; rw [e]; rfl
    | ref _ => obtain ⟨_, _, e⟩ := hx.ref_inv; rw [e]; rfl
    | fro _ => obtain ⟨_, _, e, _⟩ := hx.fro_inv; rw [e]; rfl
  cases o with
  | eq =>
    rcases eqOp_case x y g c with ⟨i, k, fs, rfl, hi⟩ | h
    · exact (EI pins s σ H r g i k fs y v w a b Q I R hi hx hy ra rb).1 hp
    · have hp : Post X.K X.mg E r H ((eqOp c x y g).bind fun b g => .ok (.bl b) g) Q := hp
      rw [h] at hp
      cases hz : eqF g 4 x y with
      | none => rw [hz] at hp; exact hp.elim
      | some z =>
        rw [hz] at hp
        exact (eq_data O I R hx hy ra rb hz).1 Q (Post.here (d := .bl z) hp R .bl)
  | ne =>
    have hp : Post X.K X.mg E r H (if neOk g x y then (eqOp c x y g).bind fun b g => .ok (.bl (!b)) g else .bad) Q := hp
    split at hp
    · rename_i hne
      rcases eqOp_case x y g c with ⟨i, k, fs, rfl, hi⟩ | h
      · exact (EI pins s σ H r g i k fs y v w a b Q I R hi hx hy ra rb).2 hne hp
      have hp : Post X.K X.mg E r H ((eqOp c x y g).bind fun b g => .ok (.bl (!b)) g) Q := hp
      rw [h] at hp
      cases hz : eqF g 4 x y with
      | none => rw [hz] at hp; exact hp.elim
      | some z =>
        rw [hz] at hp
        exact (eq_data O I R hx hy ra rb hz).2 Q (Post.here (d := .bl (!z)) hp R .bl)
    · exact hp.elim
  | lt => exact ord op_lt hp
  | le => exact ord op_le hp
  | gt => exact ord op_gt hp
  | ge => exact ord op_ge hp
  | isn =>
    have hw2 := hw hn
    subst hw2
    have hp : Post X.K X.mg E r H (.ok (.bl x.isNon) g) Q := hp
    refine op_isN pins s σ H v _ a b Q I ra rb ⟨rfl, ?_⟩
    rw [← hv]
    exact hp.here R .bl
  | notn =>
    have hw2 := hw hn
    subst hw2
    have hp : Post X.K X.mg E r H (.ok (.bl (!x.isNon)) g) Q := hp
    refine op_notN pins s σ H v _ a b Q I ra rb ⟨rfl, ?_⟩
    rw [← hv]
    exact hp.here R .bl
  | in_ =>
    have hp : Post X.K X.mg E r H (orElse (inOp x y g) fun b => .ok (.bl b) g) Q := hp
    cases hz : inOp x y g with
    | none => rw [hz] at hp; exact hp.elim
    | some z =>
      rw [hz] at hp
      exact (in_data O I R hx hy ra rb hz).1 Q (Post.here (d := .bl z) hp R .bl)
  | nin =>
    have hp : Post X.K X.mg E r H (orElse (inOp x y g) fun b => .ok (.bl (!b)) g) Q := hp
    cases hz : inOp x y g with
    | none => rw [hz] at hp; exact hp.elim
    | some z =>
      rw [hz] at hp
      exact (in_data O I R hx hy ra rb hz).2 Q (Post.here (d := .bl (!z)) hp R .bl)
end
end Uk
end
section
set_option Elab.async false
set_option linter.all false
set_option maxRecDepth 100000
set_option autoImplicit false
set_option maxHeartbeats 1000000
namespace Uk
open PySem PySem.Spec PyProof.Rows L2
/-! ## Subscripts, slices, built-ins, isinstance, attributes, methods, by values -/
theorem atI_two {K : PySem.W.Frag} {r : List Addr} {H : Hp} {xs : List D} {vs : List V} {i : Int} {d : D} (h : VRs K r H xs vs) (e : Uk.atI xs i = some d) : ∃ v, L2.atI vs i = some v ∧ VR K r H d v := by
  unfold Uk.atI at e
  obtain ⟨j, h1, h2⟩ := Option.bind_eq_some_iff.mp e
  obtain ⟨v, h3, h4⟩ := h.get h2
  refine ⟨v, ?_, h4⟩
  unfold L2.atI
  have e1 : L2.ixN vs.length i = some j := by rw [h.length]; exact h1
  rw [e1]
  exact h3
section
variable {X : L2.Cx} {ck : Arguments → List Stmt → Scope → FDef → Bool} {c : Cx} {N : List String} {sc : Scope} {E : XK} {ES : L2.St → XK} {r : List Addr} {H : Hp} {g : G} {Q : VK} {pins : List (Addr × Obj)} {s : Shared} {σ : L2.St} {v w : V} {a b : Value} {x y : D}
/-- a two-place operation that the interpreter knows, as a reading -/
def r2Of (X : L2.Cx) (E : XK) (f : D → D → G → R D) (C : V → Prop) : R2 := fun v w H Q => C w ∧ ∃ (r : List Addr) (g : G) (x y : D), Rel X.K X.mg r g H ∧ VR X.K r H x v ∧ VR X.K r H y w ∧ Post X.K X.mg E r H (f x y g) Q
theorem opr_bin {o : Bop} : OpR X (binaryOp (bopOp o)) (r2Of X E (binop o) fun _ => True) := fun pins s σ H v w a b Q I ra rb ⟨_, r, g, x, y, R, hx, hy, hp⟩ => bin_ok I R hx hy ra rb hp
theorem opr_cmp (O : XOk X ck c N sc ES) (EI : EqIns X c E) {o : Cop} {e : Uk.E} (hn : isnOk o e = true) : OpR X (compareOp (copOp o)) (r2Of X E (cmpop c o) fun w => isnC e = true → w = .non) := fun pins s σ H v w a b Q I ra rb ⟨hw, r, g, x, y, R, hx, hy, hp⟩ => cmp_ok O EI hn hw I R hx hy ra rb hp
theorem dict_tail {value slice : PySem.Expr} {o i : Value} {A : Around} {Q : Value → Shared → Prop} {E : Value → Shared → Prop} (hT : s.TypeIs o "dict") (hs : subscripted slice false o i = operate [o, i] (getItem o i)) (h : wpAny (model X.prog X.w) A (getItem o i) Q E s) :
    wpAny (model X.prog X.w) A (subscriptTail value slice o i) Q E s := by
  unfold subscriptTail
  refine wpAny_bind ?_
  rw [getitemInPython_of_ne hT.not_modules]
  refine wpAny_bind (wpAny_specialOf hT PySem.F.slot_dict_getitem.lookup ?_)
  have fin : wpAny (model X.prog X.w) A (subscripted slice false o i) (fun r s₃ => wpAny (model X.prog X.w) A (letTemporaryGo value o r >>= fun _ => pure r) Q E s₃) E s := by
    rw [hs]
    exact wpAny_operating (wpAny_mono h (fun r s₃ h₃ => wpAny_bind (wpAny_letTemporaryGo (wpAny_pure h₃))) fun _ _ x => x)
  first
    | exact wpAny_pure (wpAny_bind fin)
    | exact wpAny_bind (wpAny_pure (wpAny_bind fin))
    | exact wpAny_bind fin
theorem ix_dK (hu : X.A.units + 200 < cLine) {value slice : PySem.Expr} (I : Inv X pins σ H s) (R : Rel X.K X.mg r g H) {p : Addr} {kvs : List (D × D)} {k : D} {kk : Key} (hk : keyOf k = some kk) (oo : OR X.K X.mg r H p (.dK kvs)) (hy : VR X.K r H k w) (rb : RelV w b)
    (hp : Post X.K X.mg E r H (orElse (lookD k kvs) fun v => .ok v g) Q) (hs : subscripted slice false (.ref p) b = operate [.ref p, b] (getItem (.ref p) b)) : wpAny (model X.prog X.w) X.A (subscriptTail value slice (.ref p) b) (EP X pins σ Q) X.xe s := by
  cases hl : lookD k kvs with
  | none => rw [hl] at hp; exact hp.elim
  | some d =>
    rw [hl] at hp
    obtain ⟨v, g2, q⟩ := dget_ok (g := g) hk oo hl
    have ev := key_val hk hy
    subst ev
    exact dict_tail (dict_typeIs I g2) hs (d_getItem (by omega) I g2 rb fun w' s3 I3 rw' => ⟨v, H, I3, rw', Post.here (d := d) hp R q⟩)
theorem ixr_ok (hu : X.A.units + 200 < cLine) : IxR X (r2Of X E getIx fun _ => True) := by
  intro value slice pins s σ H v w a b Q I ra rb ⟨_, r, g, x, y, R, hx, hy, hp⟩ hs
  cases x with
  | tup xs =>
    cases y with
    | int k =>
      obtain ⟨p, vs, rfl, h1, h2⟩ := hx.tup_inv
      have e2 := hy.int_inv
      have hp : Post X.K X.mg E r H (orElse (Uk.atI xs k) fun v => .ok v g) Q := hp
      cases h : Uk.atI xs k with
      | none => rw [h] at hp; exact hp.elim
      | some d =>
        rw [h] at hp
        obtain ⟨z, h3, h4⟩ := atI_two h2 h
        exact ix_tup value slice pins s σ H _ w a b Q I ra rb ⟨p, vs, k, z, rfl, e2, h1, h3, Post.here (d := d) hp R h4⟩ hs
    | _ => exact hp.elim
  | ref i =>
    obtain ⟨p, e, rfl⟩ := hx.ref_inv
    obtain ⟨o, ho, oo⟩ := R.get e
    cases y with
    | int k =>
      have e2 := hy.int_inv
      unfold getIx at hp
      dsimp only at hp
      rw [ho] at hp
      cases o with
      | lst xs =>
        obtain ⟨vs, h1, h2⟩ := oo
        have hp : Post X.K X.mg E r H (orElse (Uk.atI xs k) fun v => .ok v g) Q := hp
        cases h : Uk.atI xs k with
        | none => rw [h] at hp; exact hp.elim
        | some d =>
          rw [h] at hp
          obtain ⟨z, h3, h4⟩ := atI_two h2 h
          exact ix_list value slice pins s σ H _ w a b Q I ra rb ⟨p, vs, k, z, rfl, e2, .of h1, h3, Post.here (d := d) hp R h4⟩ hs
      | dK kvs =>
        obtain rfl : a = Value.ref p := ra
        exact ix_dK hu I R (k := .int k) rfl oo hy rb hp hs
      | dT _ => exact oo.elim
      | ins _ _ => exact hp.elim
    | str k =>
      unfold getIx at hp
      dsimp only at hp
      rw [ho] at hp
      cases o with
      | lst xs => exact hp.elim
      | dK kvs =>
        obtain rfl : a = Value.ref p := ra
        exact ix_dK hu I R (k := .str k) rfl oo hy rb hp hs
      | dT _ => exact oo.elim
      | ins _ _ => exact hp.elim
    | tup k =>
      unfold getIx at hp
      dsimp only at hp
      rw [ho] at hp
      cases o with
      | lst xs => exact hp.elim
      | dK _ => exact hp.elim
      | dT _ => exact oo.elim
      | ins _ _ => exact hp.elim
    | _ => exact hp.elim
  | _ => cases y <;> exact hp.elim
/-- slices -/
def slOf (X : L2.Cx) (E : XK) : V → Option Int → Option Int → Hp → VK → Prop := fun v lo hi H Q => ∃ (r : List Addr) (g : G) (x : D), Rel X.K X.mg r g H ∧ VR X.K r H x v ∧ Post X.K X.mg E r H (getCut x lo hi g) Q
theorem sIxE_eq (n d : Nat) (o : Option Int) : sIxE n d o = HT.sIx n d o := by
  cases o with
  | none => rfl
  | some i =>
    by_cases h : i < 0
    · have e1 : sIxE n d (some i) = (i + n).toNat := if_pos h
      have e2 := HT.clip_eq i n d
      rw [if_pos h] at e2
      omega
    · have e1 : sIxE n d (some i) = min i.toNat n := if_neg h
      have e2 := HT.clip_eq i n d
      rw [if_neg h] at e2
      omega
theorem cut_vals {K : PySem.W.Frag} {r : List Addr} {H : Hp} {xs : List D} {vs : List V} (h : VRs K r H xs vs) (lo hi : Option Int) : VRs K r H (cutL xs (sIxE xs.length 0 lo) (sIxE xs.length xs.length hi)) (L2.cutV vs lo hi) := by
  unfold cutL L2.cutV
  rw [sIxE_eq, sIxE_eq, h.length]
  exact (h.drop _).take _
theorem sl_ok : SlR X (slOf X E) := by
  intro pins s σ H v a vl vu lo hi sl Q I ra hsl pl pu ⟨r, g, x, R, hx, hp⟩
  cases x with
  | tup xs =>
    obtain ⟨p, vs, rfl, h1, h2⟩ := hx.tup_inv
    have hp : Post X.K X.mg E r H (newT (cutL xs (sIxE xs.length 0 lo) (sIxE xs.length xs.length hi)) g) Q := hp
    have hc := cut_vals h2 lo hi
    unfold newT at hp
    split at hp
    · refine sl_tupA pins s σ H _ a vl vu lo hi sl Q I ra hsl pl pu ⟨p, vs, rfl, h1, fun hw => ?_, fun _ t ht => Post.newTup hp R hc ht⟩
      have e : cutL xs (sIxE xs.length 0 lo) (sIxE xs.length xs.length hi) = xs := by
        rw [sIxE_eq, sIxE_eq, ← h2.length, hw.1, hw.2]
        unfold cutL
        rw [h2.length]
        simp
      rw [e] at hp
      exact hp.here R hx
    · exact hp.elim
  | ref i =>
    unfold getCut at hp
    dsimp only at hp
    split at hp
    · rename_i xs hl
      obtain ⟨p, vs, _, rfl, h1, h2⟩ := R.lst hl hx
      have hc := cut_vals h2 lo hi
      unfold newL at hp
      split at hp
      · exact sl_list pins s σ H _ a vl vu lo hi sl Q I ra hsl pl pu ⟨p, vs, rfl, .of h1, fun t ht => Post.newLst hp R hc ht⟩
      · exact hp.elim
    · exact hp.elim
  | _ => exact hp.elim
/-! ### isinstance -/
theorem base_ty {T t : String} (h : T ∈ ["NoneType", "bool", "int", "str", "tuple", "list"]) (h2 : t ∈ ["int", "bool", "str", "tuple", "list", "dict"]) {K : PySem.W.Frag} :
    PySem.W.kitOne K (.type T) (.type t) = some (decide (T = t) || (T == "bool" && t == "int")) := by
  simp only [List.mem_cons, List.not_mem_nil, or_false] at h h2
  rcases h with rfl | rfl | rfl | rfl | rfl | rfl <;> rcases h2 with rfl | rfl | rfl | rfl | rfl | rfl <;> exact kit_ty (by decide +kernel)
end
section
variable {X : L2.Cx} {ck : Arguments → List Stmt → Scope → FDef → Bool} {c : Cx} {N : List String} {sc : Scope} {E : XK} {ES : L2.St → XK} {r : List Addr} {H : Hp} {g : G} {Q : VK} {pins : List (Addr × Obj)} {s : Shared} {σ : L2.St} {v w : V} {a b : Value} {x y : D}
theorem sqT_tyX {K : PySem.W.Frag} {H : Hp} {a : Addr} {vs : List V} (h : SqT K H a vs) : TyX K H (.ref a) (.type "tuple") := by
  rcases h with (h | ⟨o, h⟩) | ⟨o, its, n, h, c, _⟩
  · exact .base (.tup h)
  · exact .fTuple h
  · exact .kTuple h c
def tyOf : D → String
  | .non => "NoneType"
  | .bl _ => "bool"
  | .int _ => "int"
  | .str _ => "str"
  | .tup _ => "tuple"
  | .ref _ => "list"
  | .fro _ => "list"
theorem tyOf_mem (d : D) : tyOf d ∈ ["NoneType", "bool", "int", "str", "tuple", "list"] := by cases d <;> simp [tyOf]
/-- the type of what is no instance -/
theorem ty_data (R : Rel X.K X.mg r g H) (hx : VR X.K r H x v) (h : ∀ i, x = .ref i → ∃ xs, g[i]? = some (.lst xs)) : TyX X.K H v (.type (tyOf x)) := by
  cases x with
  | non => rw [hx.non_inv]; exact .base .non
  | bl k => rw [hx.bl_inv]; exact .base (.bl k)
  | int k => rw [hx.int_inv]; exact .base (.int k)
  | str k => rw [hx.str_inv]; exact .base (.str _)
  | tup xs =>
    obtain ⟨p, vs, rfl, h1, _⟩ := hx.tup_inv
    exact sqT_tyX h1
  | ref i =>
    obtain ⟨xs, h1⟩ := h i rfl
    obtain ⟨p, e, rfl⟩ := hx.ref_inv
    obtain ⟨vs, h2, _⟩ := R.at_ i p _ e h1
    exact .base (.lst h2)
  | fro xs =>
    obtain ⟨p, vs, rfl, h1, _⟩ := hx.fro_inv
    rcases h1 with ⟨o, h1⟩ | ⟨o, its, n, h1, c, _⟩
    · exact .base (.frz h1)
    · exact .kList h1 c
/-- a class by its name -/
def ClsN (X : L2.Cx) (P : Pg) (t : String) (u : Value) : Prop := (P.cls t = false ∧ t ∈ ["int", "bool", "str", "tuple", "list", "dict"] ∧ u = .type t) ∨ (P.cls t = true ∧ ∃ C, X.mg (sS t) = some (.ref C) ∧ u = .ref C)
theorem isi_ty (gf : GF X.K X.mg ck c.P) (R : Rel X.K X.mg r g H) (hx : VR X.K r H x v) {t : String} {z : Bool} (hz : isInst c g x t = some z) {u : Value} (hu : ClsN X c.P t u) : ∃ T, TyX X.K H v T ∧ PySem.W.kitOne X.K T u = some z := by
  unfold isInst at hz
  rcases hu with ⟨hc, ht, rfl⟩ | ⟨hc, C, hC, rfl⟩
  · rw [hc] at hz
    simp only [Bool.false_eq_true, if_false] at hz
    unfold isType at hz
    have ht2 : (["int", "bool", "str", "tuple", "list", "dict"].contains t) = true := List.contains_iff_mem.mpr ht
    rw [if_pos ht2] at hz
    have fin : ∀ (hl : ∀ i, x = .ref i → ∃ xs, g[i]? = some (.lst xs)), (decide (tyOf x = t) || (tyOf x == "bool" && t == "int")) = z → ∃ T, TyX X.K H v T ∧ PySem.W.kitOne X.K T (.type t) = some z := fun hl e =>
      ⟨_, ty_data R hx hl, by rw [base_ty (tyOf_mem x) ht, e]⟩
    have bq : ∀ a b : String, (a == b) = decide (a = b) := fun a b => by by_cases q : a = b <;> simp [q]
    have bc : ∀ a b : String, decide (a = b) = (b == a) := fun a b => by rw [bq]; by_cases q : a = b <;> simp [q, eq_comm]
    cases x with
    | non =>
      cases hz
      refine fin (fun i e => by cases e) ?_
      simp only [List.mem_cons, List.not_mem_nil, or_false] at ht
      rcases ht with rfl | rfl | rfl | rfl | rfl | rfl <;> decide
    | bl k =>
      cases hz
      refine fin (fun i e => by cases e) ?_
      simp only [List.mem_cons, List.not_mem_nil, or_false] at ht
      rcases ht with rfl | rfl | rfl | rfl | rfl | rfl <;> rfl
    | int k =>
      cases hz
      refine fin (fun i e => by cases e) ?_
      simp only [List.mem_cons, List.not_mem_nil, or_false] at ht
      rcases ht with rfl | rfl | rfl | rfl | rfl | rfl <;> rfl
    | str k =>
      cases hz
      refine fin (fun i e => by cases e) ?_
      simp only [List.mem_cons, List.not_mem_nil, or_false] at ht
      rcases ht with rfl | rfl | rfl | rfl | rfl | rfl <;> rfl
    | tup k =>
      cases hz
      refine fin (fun i e => by cases e) ?_
      simp only [List.mem_cons, List.not_mem_nil, or_false] at ht
      rcases ht with rfl | rfl | rfl | rfl | rfl | rfl <;> rfl
    | fro k => cases hz
    | ref i =>
      dsimp only at hz
      cases ho : g[i]? with
      | none => rw [ho] at hz; cases hz
      | some o =>
        rw [ho] at hz
        cases o with
        | lst xs =>
          cases hz
          refine fin (fun j e => by cases e; exact ⟨xs, ho⟩) ?_
          simp only [List.mem_cons, List.not_mem_nil, or_false] at ht
          rcases ht with rfl | rfl | rfl | rfl | rfl | rfl <;> rfl
        | _ => cases hz
  · rw [hc] at hz
    simp only [if_true] at hz
    obtain ⟨C', hC', ca⟩ := gf.cls t hc
    rw [hC] at hC'
    cases hC'
    have dat : ∀ (hl : ∀ i, x = .ref i → ∃ xs, g[i]? = some (.lst xs)), false = z → ∃ T, TyX X.K H v T ∧ PySem.W.kitOne X.K T (.ref C) = some z := fun hl e => by
      refine ⟨_, ty_data R hx hl, ?_⟩
      rw [← e]
      refine ca.ty _ ?_
      exact List.mem_append_left ["dict"] (tyOf_mem x)
    cases x with
    | ref i =>
      dsimp only at hz
      cases ho : g[i]? with
      | none => rw [ho] at hz; cases hz
      | some o =>
        rw [ho] at hz
        cases o with
        | ins k fs =>
          dsimp only at hz
          split at hz
          · rename_i hk
            cases hz
            obtain ⟨p, e, rfl⟩ := hx.ref_inv
            obtain ⟨C2, dx, ps, h1, h2, h3⟩ := R.at_ i p _ e ho
            obtain ⟨C3, h4, ca3⟩ := gf.cls k hk
            rw [h1] at h4
            cases h4
            exact ⟨.ref C2, .base (.ins h2 ca3.cl ca3.o1 ca3.o2 ca3.o3 ca3.o4), gf.ins k t C2 C hk hc h1 hC⟩
          · cases hz
        | _ => cases hz
    | _ => cases hz; exact dat (fun i e => by cases e) rfl
end
/-! ### built-ins -/
def crOf (X : L2.Cx) (E : XK) (f : List D → G → R D) : List V → Hp → VK → Prop := fun vs H Q => ∃ (r : List Addr) (g : G) (ds : List D), Rel X.K X.mg r g H ∧ VRs X.K r H ds vs ∧ Post X.K X.mg E r H (f ds g) Q
theorem VRs.one {K : PySem.W.Frag} {r : List Addr} {H : Hp} {d : D} {vs : List V} (h : VRs K r H [d] vs) : ∃ v, vs = [v] ∧ VR K r H d v := by
  obtain ⟨v, q, rfl, h1, h2⟩ := h.inv
  rw [VRs.nil_iff.mp h2]
  exact ⟨v, rfl, h1⟩
theorem VRs.two {K : PySem.W.Frag} {r : List Addr} {H : Hp} {d e : D} {vs : List V} (h : VRs K r H [d, e] vs) : ∃ v w, vs = [v, w] ∧ VR K r H d v ∧ VR K r H e w := by
  obtain ⟨v, q, rfl, h1, h2⟩ := h.inv
  obtain ⟨w, rfl, h3⟩ := h2.one
  exact ⟨v, w, rfl, h1, h3⟩
theorem ints_vals {K : PySem.W.Frag} {r : List Addr} {H : Hp} : ∀ {ds : List D} {is : List Int} {vs : List V}, Uk.intsD ds = some is → VRs K r H ds vs → vs = is.map V.int
  | [], is, vs, h, hv => by cases h; rw [VRs.nil_iff.mp hv]; rfl
  | d :: ds, is, vs, h, hv => by
    obtain ⟨v, q, rfl, h1, h2⟩ := hv.inv
    cases d with
    | int i =>
      have h : (Uk.intsD ds).map (i :: ·) = some is := h
      obtain ⟨js, e1, e2⟩ := Option.map_eq_some_iff.mp h
      rw [h1.int_inv, ints_vals e1 h2, ← e2]
      rfl
    | _ => cases h
theorem bools_vals {K : PySem.W.Frag} {r : List Addr} {H : Hp} : ∀ {ds : List D} {is : List Bool} {vs : List V}, Uk.bools ds = some is → VRs K r H ds vs → vs = is.map V.bl
  | [], is, vs, h, hv => by cases h; rw [VRs.nil_iff.mp hv]; rfl
  | d :: ds, is, vs, h, hv => by
    obtain ⟨v, q, rfl, h1, h2⟩ := hv.inv
    cases d with
    | bl i =>
      have h : (Uk.bools ds).map (i :: ·) = some is := h
      obtain ⟨js, e1, e2⟩ := Option.map_eq_some_iff.mp h
      rw [h1.bl_inv, bools_vals e1 h2, ← e2]
      rfl
    | _ => cases h
theorem maxI_cons (i j : Int) (l : List Int) : maxI (i :: j :: l) = max i (maxI (j :: l)) := rfl
theorem minI_cons (i j : Int) (l : List Int) : minI (i :: j :: l) = min i (minI (j :: l)) := rfl
theorem maxI_max : ∀ (l : List Int), l ≠ [] → maxI l ∈ l ∧ ∀ y ∈ l, y ≤ maxI l
  | [], h => absurd rfl h
  | [i], _ => by simp [maxI]
  | i :: j :: l, _ => by
    have ih := maxI_max (j :: l) (by simp)
    rw [maxI_cons]
    refine ⟨?_, fun y hy => ?_⟩
    · by_cases h : i ≤ maxI (j :: l)
      · rw [Int.max_eq_right h]; exact List.mem_cons_of_mem _ ih.1
      · rw [Int.max_eq_left (by omega)]; exact List.mem_cons_self
    · rcases List.mem_cons.mp hy with rfl | hy
      · omega
      · have := ih.2 y hy; omega
theorem minI_min : ∀ (l : List Int), l ≠ [] → minI l ∈ l ∧ ∀ y ∈ l, minI l ≤ y
  | [], h => absurd rfl h
  | [i], _ => by simp [minI]
  | i :: j :: l, _ => by
    have ih := minI_min (j :: l) (by simp)
    rw [minI_cons]
    refine ⟨?_, fun y hy => ?_⟩
    · by_cases h : i ≤ minI (j :: l)
      · rw [Int.min_eq_left h]; exact List.mem_cons_self
      · rw [Int.min_eq_right (by omega)]; exact List.mem_cons_of_mem _ ih.1
    · rcases List.mem_cons.mp hy with rfl | hy
      · omega
      · have := ih.2 y hy; omega
theorem noX_post {K : PySem.W.Frag} {mg : Str → Option Value} {E E' : XK} {r : List Addr} {H : Hp} {m : R D} {Q : VK} {α : Type} {k : D → G → Uk.R D} (h : Post K mg E r H ((noX m).bind k) Q) : ∃ d g, m = .ok d g ∧ Post K mg E r H (k d g) Q := by
  cases m with
  | ok d g => exact ⟨d, g, rfl, h⟩
  | exc _ _ => exact h.elim
  | bad => exact h.elim
section
variable {X : L2.Cx} {ck : Arguments → List Stmt → Scope → FDef → Bool} {c : Cx} {N : List String} {sc : Scope} {E : XK} {ES : L2.St → XK} {r : List Addr} {H : Hp} {g : G} {Q : VK} {pins : List (Addr × Obj)} {s : Shared} {σ : L2.St} {v w : V} {a b : Value} {x y : D}
/-- a call of a def one level below, no exception -/
theorem run1 (O : XOk X ck c N sc ES) {k f : String} {fd : FDef} {ad : Addr} {dt : FuncData} (hf : c.P.fn k f = some fd) (at_ : FnAt X.K ck fd ad dt) {ds : List D} {vs : List V} {us : List Value} (I : Inv X pins σ H s) (R : Rel X.K X.mg r g H) (hd : VRs X.K r H ds vs) (ru : Vals vs us)
    {d : D} {g' : G} (hc : c.call1 k f ds g = .ok d g') (hl : ds.length = fd.ps.length) {A : Around} (hA : A = X.A ∨ A = X.A.in1) {E' : Value → Shared → Prop} {Qf : Value → Shared → Prop}
    (fin : ∀ u s1 r1 H1 v1, Inv X pins σ H1 s1 → Ext r H r1 H1 → Rel X.K X.mg r1 g' H1 → VR X.K r1 H1 d v1 → RelV v1 u → Qf u s1) : wpAny (model X.prog X.w) A (PySem.call (.ref ad) us) Qf E' s := by
  obtain ⟨n, hr, _, hc1⟩ := O.room
  rcases hc1 with z | ⟨m, hm, F⟩
  · rw [z] at hc; cases hc
  · have Fk := F k f fd ad dt hf at_
    subst hm
    have hrA : Room m A := by
      rcases hA with rfl | rfl
      · exact hr.mono (Nat.le_succ m)
      · exact hr.in1
    have hfr : Env0 X.prog X.w X.K X.mg X.base A X.stack s H := by
      rcases hA with rfl | rfl
      · exact I.env0
      · exact I.env0.in1
    have hsp : SpOf X.K X.mg fd.ps.length (c.call1 k f) vs H (fun v H' => ∃ r1, Ext r H r1 H' ∧ Rel X.K X.mg r1 g' H' ∧ VR X.K r1 H' d v) E0 := by
      refine ⟨by rw [hd.length, hl], r, g, ds, R, hd, ?_⟩
      rw [hc]
      exact fun r' v H' x R' q => ⟨r', x, R', q⟩
    have hl2 : us.length = (fd.ps.map sS).length := by rw [← ru.length, hd.length, List.length_map, hl]
    refine wpAny_call (codeAny_mono (Fk.run A X.stack s H ⟨us, []⟩ us vs _ E0 hrA hfr (by
      have := at_.bi s us I.kIn (by simpa using hl2)
      simpa using this) ru hsp) fun r s' hq => ?_)
    cases r with
    | error e => exact False.elim (passL (X := X.nox) pins σ H s e s' (I.wish _) hq)
    | ok fl =>
      cases fl with
      | ret u =>
        obtain ⟨v1, H1, I1, rv, r1, x1, R1, q1⟩ := I.after hq
        exact fin u s' r1 H1 v1 I1 x1 R1 q1 rv
      | next => exact False.elim hq
      | brk => exact False.elim hq
      | cont => exact False.elim hq
theorem cr_lenD (O : XOk X ck c N sc ES) : CallR X (.builtin "len") (crOf X E (builtin c .len)) := by
  intro pins s σ H vs us Q I ru ⟨r, g, ds, R, hd, hp⟩
  cases ds with
  | nil => exact hp.elim
  | cons x l =>
    cases l with
    | cons _ _ => exact hp.elim
    | nil =>
      obtain ⟨v, rfl, hx⟩ := hd.one
      have hp : Post X.K X.mg E r H (lenOf c x g) Q := hp
      cases x with
      | str z =>
        unfold lenOf at hp
        dsimp only at hp
        split at hp
        · rename_i hl
          refine call_len_str pins s σ H _ us Q I ru ⟨sS z, by rw [hx.str_inv], by rw [sS_len, ← line_eq]; exact hl, ?_⟩
          rw [sS_len]
          exact Post.here (d := .int z.length) hp R .int
        · exact hp.elim
      | tup xs =>
        obtain ⟨p, ws, rfl, h1, h2⟩ := hx.tup_inv
        refine call_len_seq pins s σ H _ us Q I ru ⟨p, ws, rfl, .inr h1, ?_⟩
        rw [h2.length]
        exact Post.here (d := .int xs.length) hp R .int
      | ref i =>
        obtain ⟨p, e, rfl⟩ := hx.ref_inv
        obtain ⟨o, ho, oo⟩ := R.get e
        unfold lenOf at hp
        dsimp only at hp
        rw [ho] at hp
        cases o with
        | lst xs =>
          obtain ⟨ws, h1, h2⟩ := oo
          refine call_len_seq pins s σ H _ us Q I ru ⟨p, ws, rfl, .inl (.of h1), ?_⟩
          rw [h2.length]
          exact Post.here (d := .int xs.length) hp R .int
        | dK kvs =>
          obtain ⟨ps, h1, h2⟩ := oo
          obtain ⟨u, rfl, ru2⟩ := vals1 ru
          obtain rfl : u = Value.ref p := ru2
          refine d_len I (.inl h1) fun t s' I' => ⟨.int kvs.length, H, I', ⟨t, ?_⟩, Post.here (d := .int kvs.length) hp R .int⟩
          rw [h2.length]
        | dT _ => exact oo.elim
        | ins k fs =>
          dsimp only at hp
          split at hp
          · rename_i hk
            rw [Bool.and_eq_true, Bool.not_eq_true'] at hk
            obtain ⟨d, g', hc, hp⟩ := noX_post (E' := E) (α := Unit) hp
            obtain ⟨fd, hfd, hl⟩ := O.ar1 k "__len__" [.ref i] g (by rw [hc]; exact fun z => by cases z)
            obtain ⟨C, dx, ps, h0, h1, h2⟩ := oo
            obtain ⟨fa, dt, M, at_⟩ := O.gf.met k "__len__" fd C hk.1 hfd hk.2 h0
            obtain ⟨mA, J, _⟩ := ins_get I.hok h1
            obtain ⟨od, J, _⟩ := J.look
            obtain ⟨m, F⟩ := I.fr
            obtain ⟨u, rfl, ru2⟩ := vals1 ru
            have ru2 : u = Value.ref p := ru2
            subst ru2
            refine PySem.W.len_K F I.ok.mod.kin J M.at_ M.fn ?_
            refine run1 O hfd at_ I R (ds := [.ref i]) (vs := [.ref p]) (us := [.ref p]) (.cons (.ref e) (VRs.nil_iff.mpr rfl)) (.cons rfl .nil) hc (by simpa using hl) (.inr rfl) fun u s1 r1 H1 v1 I1 x1 R1 q1 rv => ?_
            cases d with
            | int n =>
              dsimp only at hp
              split at hp
              · rename_i hn
                rw [q1.int_inv] at rv
                obtain ⟨t, rfl⟩ := rv
                have h63 := line63
                have hb : n < 2 ^ 63 := by
                  have := hn.2
                  rw [line_eq] at this
                  omega
                exact ⟨⟨hn.1, hb⟩, .int n, H1, I1.tok _, ⟨_, rfl⟩, Post.here (hp.ext x1) R1 .int⟩
              · exact hp.elim
            | _ => exact hp.elim
          · exact hp.elim
      | _ => exact hp.elim
theorem cr_absD : CallR X (.builtin "abs") (crOf X E (builtin c .abs)) := by
  intro pins s σ H vs us Q I ru ⟨r, g, ds, R, hd, hp⟩
  cases ds with
  | nil => exact hp.elim
  | cons x l =>
    cases l with
    | cons _ _ => cases x <;> exact hp.elim
    | nil =>
      obtain ⟨v, rfl, hx⟩ := hd.one
      cases x with
      | int i => exact call_abs pins s σ H _ us Q I ru ⟨i, by rw [hx.int_inv], Post.here (d := .int (if i < 0 then -i else i)) hp R .int⟩
      | _ => exact hp.elim
theorem cr_intD : CallR X (.type "int") (crOf X E (builtin c .int)) := by
  intro pins s σ H vs us Q I ru ⟨r, g, ds, R, hd, hp⟩
  cases ds with
  | nil => exact hp.elim
  | cons x l =>
    cases l with
    | cons _ _ => cases x <;> exact hp.elim
    | nil =>
      obtain ⟨v, rfl, hx⟩ := hd.one
      cases x with
      | int i => exact call_int1 pins s σ H _ us Q I ru (.inl ⟨i, by rw [hx.int_inv], Post.here (d := .int i) hp R .int⟩)
      | bl i => exact call_int1 pins s σ H _ us Q I ru (.inr ⟨i, by rw [hx.bl_inv], Post.here (d := .int (if i then 1 else 0)) hp R .int⟩)
      | _ => exact hp.elim
theorem cr_listD : CallR X (.type "list") (crOf X E (builtin c .list)) := by
  intro pins s σ H vs us Q I ru ⟨r, g, ds, R, hd, hp⟩
  cases ds with
  | nil => exact hp.elim
  | cons x l =>
    cases l with
    | cons _ _ => cases x <;> exact hp.elim
    | nil =>
      obtain ⟨v, rfl, hx⟩ := hd.one
      cases x with
      | tup xs =>
        obtain ⟨p, ws, rfl, h1, h2⟩ := hx.tup_inv
        have hp : Post X.K X.mg E r H (newL xs g) Q := hp
        unfold newL at hp
        split at hp
        · exact call_list_of pins s σ H _ us Q I ru ⟨p, ws, rfl, .inr h1, fun t ht => Post.newLst hp R h2 ht⟩
        · exact hp.elim
      | ref i =>
        have hp : Post X.K X.mg E r H (orElse (lsOf g i) fun xs => newL xs g) Q := hp
        cases hl : lsOf g i with
        | none => rw [hl] at hp; exact hp.elim
        | some xs =>
          rw [hl] at hp
          have hp : Post X.K X.mg E r H (newL xs g) Q := hp
          obtain ⟨p, ws, _, rfl, h1, h2⟩ := R.lst hl hx
          unfold newL at hp
          split at hp
          · exact call_list_of pins s σ H _ us Q I ru ⟨p, ws, rfl, .inl (.of h1), fun t ht => Post.newLst hp R h2 ht⟩
          · exact hp.elim
      | _ => exact hp.elim
theorem cr_tupleD : CallR X (.type "tuple") (crOf X E (builtin c .tuple)) := by
  intro pins s σ H vs us Q I ru ⟨r, g, ds, R, hd, hp⟩
  cases ds with
  | nil => exact hp.elim
  | cons x l =>
    cases l with
    | cons _ _ => cases x <;> exact hp.elim
    | nil =>
      obtain ⟨v, rfl, hx⟩ := hd.one
      cases x with
      | tup xs =>
        obtain ⟨p, ws, rfl, h1, h2⟩ := hx.tup_inv
        exact call_tuple_of pins s σ H _ us Q I ru ⟨p, ws, rfl, .inr ⟨h1, Post.here (d := .tup xs) hp R hx⟩⟩
      | ref i =>
        have hp : Post X.K X.mg E r H (orElse (lsOf g i) fun xs => newT xs g) Q := hp
        cases hl : lsOf g i with
        | none => rw [hl] at hp; exact hp.elim
        | some xs =>
          rw [hl] at hp
          have hp : Post X.K X.mg E r H (newT xs g) Q := hp
          obtain ⟨p, ws, _, rfl, h1, h2⟩ := R.lst hl hx
          unfold newT at hp
          split at hp
          · exact call_tuple_of pins s σ H _ us Q I ru ⟨p, ws, rfl, .inl ⟨.of h1, fun t ht => Post.newTup hp R h2 ht⟩⟩
          · exact hp.elim
      | _ => exact hp.elim
theorem all_of {f : List Bool → Bool} {ds : List D} {vs : List V} (R : Rel X.K X.mg r g H) (hd : VRs X.K r H ds vs) (hp : Post X.K X.mg E r H (allD ds g f) Q) : ∃ p bs, vs = [.ref p] ∧ SqL X.K H p (bs.map V.bl) ∧ Q (.bl (f bs)) H := by
  unfold allD at hp
  split at hp
  · rename_i a
    obtain ⟨v, rfl, hx⟩ := hd.one
    cases hl : lsOf g a with
    | none => rw [hl] at hp; exact hp.elim
    | some xs =>
      rw [hl] at hp
      have hp : Post X.K X.mg E r H (orElse (Uk.bools xs) fun bs => .ok (.bl (f bs)) g) Q := hp
      cases hb : Uk.bools xs with
      | none => rw [hb] at hp; exact hp.elim
      | some bs =>
        rw [hb] at hp
        obtain ⟨p, ws, _, rfl, h1, h2⟩ := R.lst hl hx
        rw [bools_vals hb h2] at h1
        exact ⟨p, bs, rfl, .of h1, Post.here (d := .bl (f bs)) hp R .bl⟩
  · exact hp.elim
theorem cr_allD (hc : X.calm = true) : CallR X (.builtin "all") (crOf X E (builtin c .all)) := fun pins s σ H vs us Q I ru ⟨r, g, ds, R, hd, hp⟩ => by
  obtain ⟨p, bs, e, h1, h2⟩ := all_of R hd hp
  exact cr_all hc pins s σ H vs us Q I ru ⟨p, bs, e, h1, h2⟩
theorem cr_anyD (hc : X.calm = true) : CallR X (.builtin "any") (crOf X E (builtin c .any)) := fun pins s σ H vs us Q I ru ⟨r, g, ds, R, hd, hp⟩ => by
  obtain ⟨p, bs, e, h1, h2⟩ := all_of R hd hp
  exact cr_any hc pins s σ H vs us Q I ru ⟨p, bs, e, h1, h2⟩
theorem ext_of {f : List Int → Int} {ds : List D} {vs : List V} (R : Rel X.K X.mg r g H) (hd : VRs X.K r H ds vs) (hp : Post X.K X.mg E r H (extD ds g f) Q) : ∃ p is, vs = [.ref p] ∧ SqL X.K H p (is.map V.int) ∧ is ≠ [] ∧ Q (.int (f is)) H := by
  unfold extD at hp
  split at hp
  · rename_i a
    obtain ⟨v, rfl, hx⟩ := hd.one
    cases hl : lsOf g a with
    | none => rw [hl] at hp; exact hp.elim
    | some xs =>
      rw [hl] at hp
      have hp : Post X.K X.mg E r H (orElse (Uk.intsD xs) fun is => if is.isEmpty then .bad else .ok (.int (f is)) g) Q := hp
      cases hb : Uk.intsD xs with
      | none => rw [hb] at hp; exact hp.elim
      | some is =>
        rw [hb] at hp
        have hp : Post X.K X.mg E r H (if is.isEmpty then .bad else .ok (.int (f is)) g) Q := hp
        split at hp
        · exact hp.elim
        · rename_i he
          obtain ⟨p, ws, _, rfl, h1, h2⟩ := R.lst hl hx
          rw [ints_vals hb h2] at h1
          exact ⟨p, is, rfl, .of h1, by rintro rfl; exact he rfl, Post.here (d := .int (f is)) hp R .int⟩
  · exact hp.elim
theorem max_uniq {l : List Int} {m k : Int} (h1 : m ∈ l ∧ ∀ y ∈ l, y ≤ m) (h2 : k ∈ l ∧ ∀ y ∈ l, y ≤ k) : m = k := by
  have := h1.2 k h2.1
  have := h2.2 m h1.1
  omega
theorem min_uniq {l : List Int} {m k : Int} (h1 : m ∈ l ∧ ∀ y ∈ l, m ≤ y) (h2 : k ∈ l ∧ ∀ y ∈ l, k ≤ y) : m = k := by
  have := h1.2 k h2.1
  have := h2.2 m h1.1
  omega
theorem cr_maxD (hc : X.calm = true) : CallR X (.builtin "max") (crOf X E (builtin c .max)) := fun pins s σ H vs us Q I ru ⟨r, g, ds, R, hd, hp⟩ => by
  unfold builtin at hp
  dsimp only at hp
  split at hp
  · rename_i i j
    obtain ⟨v, w, rfl, h1, h2⟩ := hd.two
    exact call_max2 hc pins s σ H _ us Q I ru ⟨i, j, by rw [h1.int_inv, h2.int_inv], Post.here (d := .int (if j > i then j else i)) hp R .int⟩
  · obtain ⟨p, is, e, h1, h2, h3⟩ := ext_of R hd hp
    refine cr_max hc pins s σ H vs us Q I ru ⟨p, is, e, h1, List.length_pos_iff.mpr h2, fun m hm hle => ?_⟩
    rw [max_uniq ⟨hm, hle⟩ (maxI_max is h2)]
    exact h3
theorem cr_minD (hc : X.calm = true) : CallR X (.builtin "min") (crOf X E (builtin c .min)) := fun pins s σ H vs us Q I ru ⟨r, g, ds, R, hd, hp⟩ => by
  obtain ⟨p, is, e, h1, h2, h3⟩ := ext_of R hd hp
  refine cr_min hc pins s σ H vs us Q I ru ⟨p, is, e, h1, List.length_pos_iff.mpr h2, fun m hm hle => ?_⟩
  rw [min_uniq ⟨hm, hle⟩ (minI_min is h2)]
  exact h3
end
end Uk
end
section
set_option Elab.async false
set_option linter.all false
set_option maxRecDepth 100000
set_option autoImplicit false
set_option maxHeartbeats 1000000
namespace Uk
open PySem PySem.Spec PyProof.Rows L2
/-! ## The syntax around expressions -/
theorem ck_plain {P : Pg} {N : List String} {sc : Scope} {e : Uk.E} {p : PySem.Expr} (h : ckE P N sc e p = true) : plainP p = true := by
  cases p <;> first
    | rfl
    | (exfalso; cases e <;> first | exact Bool.false_ne_true h | (unfold ckE at h; exact Bool.false_ne_true h))
theorem star_plain {p : PySem.Expr} {ps : List PySem.Expr} {env : PySem.Env} (h : plainP p = true) : starEach (p :: ps) env = (false, eval p env) :: starEach ps env := by
  cases p <;> first | rfl | exact absurd h Bool.false_ne_true
theorem ckEs_all {P : Pg} {N : List String} {sc : Scope} : ∀ {es : Uk.Es} {ps : List PySem.Expr}, ckEs P N sc es ps = true → ∀ p ∈ ps, plainP p = true
  | .n, [], _, _, hp => by cases hp
  | .n, _ :: _, h, _, _ => by unfold ckEs at h; exact absurd h Bool.false_ne_true
  | .c _ _, [], h, _, _ => by unfold ckEs at h; exact absurd h Bool.false_ne_true
  | .c e es, q :: ps, h, p, hp => by
    unfold ckEs at h
    rw [Bool.and_eq_true] at h
    rcases List.mem_cons.mp hp with rfl | hp
    · exact ck_plain h.1
    · exact ckEs_all h.2 p hp
theorem star_all {env : PySem.Env} : ∀ {ps : List PySem.Expr}, (∀ p ∈ ps, plainP p = true) → starEach ps env = ps.map fun p => (false, eval p env)
  | [], _ => rfl
  | p :: ps, h => by
    rw [star_plain (h p List.mem_cons_self), star_all fun q hq => h q (List.mem_cons_of_mem _ hq)]
    rfl
theorem back_any {env : PySem.Env} {pos : Pos} {ps : List PySem.Expr} (h : ∀ p ∈ ps, plainP p = true) : (backTo pos (starEach ps env)).any (·.1) = false := by
  rw [star_all h]
  unfold backTo
  rw [List.any_eq_false]
  intro z hz
  rw [List.map_map, List.mem_map] at hz
  obtain ⟨p, _, rfl⟩ := hz
  exact Bool.false_ne_true
theorem back_all {env : PySem.Env} {pos : Pos} {ps : List PySem.Expr} (h : ∀ p ∈ ps, plainP p = true) : (backTo pos (starEach ps env)).all (fun x => !x.1) = true := by
  rw [star_all h]
  unfold backTo
  rw [List.all_eq_true]
  intro z hz
  rw [List.map_map, List.mem_map] at hz
  obtain ⟨p, _, rfl⟩ := hz
  rfl
theorem base_plain {p : PySem.Expr} {f : Str} {env : PySem.Env} {whole : Sem Value} (h : noSup p = true) : attributeBase p f env whole = whole := by
  cases p with
  | Call fn args kws pos =>
    cases fn with
    | Name x q =>
      cases args with
      | nil =>
        cases kws with
        | nil => exact absurd h Bool.false_ne_true
        | cons _ _ => rfl
      | cons _ _ => cases kws <;> rfl
    | _ => cases args <;> cases kws <;> rfl
  | _ => rfl
/-- a method's call: the object, the method, the call -/
theorem methodCall_gen {M : Model} {A : Around} {E : Value → Shared → Prop} {s : Shared} {env : PySem.Env} {o : PySem.Expr} {name : Str} {apos pos : Pos} {args : List PySem.Expr} {Q : Value → Shared → Prop}
    (hb : noSup o = true) (ha : ∀ p ∈ args, plainP p = true) (hl : args.length < 30) (hp : lineB apos pos = true)
    (h : wpAny M A (eval o env) (fun ov s₁ => ∀ pl, wpAny M A (getMethod ov name pl) (fun fx s₂ => wpAny M A (callWith pos fx.1 fx.2 (backTo pos (starEach args env)) []) Q E s₂) E s₁) E s) :
    wpAny M A (eval (.Call (.Attribute o name apos) args [] pos) env) Q E s := by
  rw [arm_eval_Call, base_plain hb]
  refine wpAny_bind (wpAny_mono h (fun ov s₁ h₁ => wpAny_bind (wpAny_standAt ?_)) fun _ _ e => e)
  have hform : methodCallForm (args.length + ([] : List Keyword).length) (backTo pos (starEach args env)) (backToKw pos (keywordEach [] env)) = true := by
    unfold methodCallForm
    rw [back_all ha, Bool.true_and]
    show (true && decide (args.length + 0 + 0 < 30)) = true
    rw [Bool.true_and]
    exact decide_eq_true (by omega)
  have hpos : methodCallPos true o env apos pos = pure pos := by
    have hp : (apos.endLine == pos.line) = true := hp
    unfold methodCallPos
    simp [hp]
  unfold methodCall
  rw [hform]
  refine wpAny_bind (wpAny_holding (wpAny_mono (h₁ _) (fun fx s₂ h₂ => ?_) fun _ _ e => e))
  exact wpAny_bind (wpAny_of_eq hpos h₂)
section
variable {X : L2.Cx} {ck : Arguments → List Stmt → Scope → FDef → Bool} {c : Cx} {N : List String} {sc : Scope} {E : L2.St → XK} {r : List Addr} {H : Hp} {g : G} {Q : VK} {pins : List (Addr × Obj)} {s : Shared} {σ : L2.St} {e : Env}
/-- a call of a def at this level -/
theorem run0 (O : XOk X ck c N sc E) {k f : String} {fd : FDef} {ad : Addr} {dt : FuncData} (hf : c.P.fn k f = some fd) (at_ : FnAt X.K ck fd ad dt) {ds : List D} {vs : List V} {us : List Value} (I : Inv X pins σ H s) (R : Rel X.K X.mg r g H) (hd : VRs X.K r H ds vs) (ru : Vals vs us)
    (hl : ds.length = fd.ps.length) (hp : Post X.K X.mg (E σ) r H (c.call k f ds g) Q) : wpAny (model X.prog X.w) X.A (PySem.call (.ref ad) us) (EP X pins σ Q) X.xe s := by
  obtain ⟨n, hr, F, _⟩ := O.room
  have hsp : SpOf X.K X.mg fd.ps.length (c.call k f) vs H Q (E σ) := ⟨by rw [hd.length, hl], r, g, ds, R, hd, hp⟩
  exact run_fnS (F k f fd ad dt hf at_) hr at_.bi (O.pass σ) I ru hsp
/-- C(..), what comes out told at this frame's slots alone -/
theorem run_mkS {C f : Addr} {fd : FuncData} {ps : List Str} {sp : Sp} {k : Nat} {us : List Value} {vs : List V} {W : XK} (M : Mk X.K C f) (F : FnOk X.prog X.w X.K X.mg X.base (L2.CX X.prog X.w) k f fd ps sp) (hr : Room (k + 1) X.A) (hb : Binds X.K fd ps [])
    (hx : PassesAt (L2.CX X.prog X.w) X σ W) (I : Inv X pins σ H s) (rr : Vals vs us)
    (h : ∀ x dx, H x = none → H dx = none → dx ≠ x → sp (.ref x :: vs) (upd (upd H dx (.own x)) x (.ins C dx [])) (fun v H2 => v = .non ∧ Q (.ref x) H2) W) : wpAny (model X.prog X.w) X.A (PySem.call (.ref C) us) (EP X pins σ Q) X.xe s := by
  generalize hN : s.heap.objs.size = top
  have q0 := h (top + 1) top (I.hok.fresh (by rw [hN]; exact Nat.le_succ _)) (I.hok.fresh (by rw [hN]; exact Nat.le_refl _)) (Nat.ne_of_lt (Nat.lt_succ_self _))
  subst hN
  have J := Inv.made (C := C) I
  have rv : Vals (V.ref (s.heap.objs.size + 1) :: vs) (Value.ref (s.heap.objs.size + 1) :: us) := .cons rfl rr
  have len : (Value.ref (s.heap.objs.size + 1) :: us).length = ps.length := by rw [← rv.length]; exact F.len _ _ _ _ q0
  have bb := hb _ (Value.ref (s.heap.objs.size + 1) :: us) J.kIn (by rw [List.append_nil]; exact len)
  rw [List.append_nil] at bb
  have body := F.run _ X.stack _ _ ⟨Value.ref (s.heap.objs.size + 1) :: us, []⟩ (Value.ref (s.heap.objs.size + 1) :: us) _ _ W (hr.make C us []) (J.env0.make C us []) bb rv q0
  refine wpAny_call (make_map (f := f) I.kIn M.makes M.init (beq_iff_eq.mp M.fn) (codeAny_mono body fun z s' hz => ?_))
  cases z with
  | error e => exact hx pins _ _ e s' J hz
  | ok fl =>
    cases fl with
    | ret u =>
      obtain ⟨v, H', I3, ru, ev, q3⟩ := J.after hz
      subst ev
      exact ⟨ru, V.ref (s.heap.objs.size + 1), H', I3, rfl, q3⟩
    | next => exact False.elim hz
    | brk => exact False.elim hz
    | cont => exact False.elim hz
theorem callWith_go {fv : Value} {first : List Value} {ps : List PySem.Expr} {pos : Pos} {m : Env → G → Uk.R (List D)} (ha : PA X ps (LA X E m)) (hpl : ∀ p ∈ ps, plainP p = true) (hnil : ps = [] → ∀ e g, m e g = .ok [] g) (hk : PySem.W.keepIn X.K fv = true) (I : Inv X pins σ H s) (R : Rel X.K X.mg r g H) (er : ER X.K r H e σ)
    {k : List D → G → Uk.R D} (hp : Post X.K X.mg (E σ) r H ((m e g).bind k) Q) {Qf : Value → Shared → Prop}
    (next : ∀ (us : List Value) (s1 : Shared) (r1 : List Addr) (g1 : G) (H1 : Hp) (ds : List D) (vs : List V), Inv X pins σ H1 s1 → Ext r H r1 H1 → Rel X.K X.mg r1 g1 H1 → ER X.K r1 H1 e σ → VRs X.K r1 H1 ds vs → Vals vs us → Post X.K X.mg (E σ) r1 H1 (k ds g1) Q → wpAny (model X.prog X.w) X.A (PySem.call fv (first ++ us)) Qf X.xe s1) :
    wpAny (model X.prog X.w) X.A (callWith pos fv first (backTo pos (starEach ps X.env)) []) Qf X.xe s := by
  cases ps with
  | nil =>
    rw [hnil rfl] at hp
    exact PySem.W.callWith_K0 I.kIn hk (next [] s r g H [] [] I (.refl r H) R er (VRs.nil_iff.mpr rfl) .nil hp)
  | cons p ps =>
    refine PySem.W.callWith_K (h₀ := X.base) I.ok.mod.kin hk ?_ (star_plain (hpl p List.mem_cons_self)) (back_any fun q hq => hpl q (List.mem_cons_of_mem _ hq))
    exact LA.seq ha pos I R er hp fun us s1 r1 g1 H1 ds vs I1 x R1 e1 hd ru hp1 => ⟨I1.kIn, next us s1 r1 g1 H1 ds vs I1 x R1 e1 hd ru hp1⟩
theorem evs_nil {P : Pg} {es : Uk.Es} (h : ckEs P N sc es [] = true) : es = .n := by
  cases es with
  | n => rfl
  | c _ _ => unfold ckEs at h; exact absurd h Bool.false_ne_true
/-- the class of an instance -/
theorem ins_cls (O : XOk X ck c N sc E) (R : Rel X.K X.mg r g H) {i : Nat} {k : String} {fs : List (String × D)} {p : Addr} (e : r[i]? = some p) (ho : g[i]? = some (.ins k fs)) (hk : c.P.cls k = true) :
    ∃ C dx ps, X.mg (sS k) = some (.ref C) ∧ H p = some (.ins C dx ps) ∧ FRs X.K r H fs ps ∧ ClsAt X.K c.P k C := by
  obtain ⟨C, dx, ps, h0, h1, h2⟩ := R.at_ i p _ e ho
  obtain ⟨C', h3, h4⟩ := O.gf.cls k hk
  rw [h0] at h3
  cases h3
  exact ⟨C, dx, ps, h0, h1, h2, h4⟩
theorem lookF_rel {K : PySem.W.Frag} {f : String} : ∀ {fs : List (String × D)} {ps : List (Str × V)}, FRs K r H fs ps → match lookF f fs with
    | some d => ∃ v, ps.lookup (sS f) = some v ∧ VR K r H d v
    | none => ps.lookup (sS f) = none
  | [], _, .nil => rfl
  | (a, d) :: fs, (b, v) :: ps, .cons h t => by
    obtain ⟨e, hv⟩ := h
    dsimp only at e
    subst e
    unfold lookF
    by_cases h : a = f
    · subst h
      rw [if_pos rfl]
      exact ⟨v, by simp [List.lookup], hv⟩
    · rw [if_neg h]
      have h2 : (sS f == sS a) = false := beq_eq_false_iff_ne.mpr fun z => h (sS_inj z).symm
      have ih := lookF_rel (f := f) t
      rw [List.lookup_cons, h2]
      exact ih
theorem putF_rel {K : PySem.W.Frag} {f : String} {d : D} {v : V} (hv : VR K r H d v) : ∀ {fs : List (String × D)} {ps : List (Str × V)}, FRs K r H fs ps → FRs K r H (Uk.putF f d fs) (L2.putF (sS f) v ps)
  | [], _, .nil => .cons ⟨rfl, hv⟩ .nil
  | (a, d') :: fs, (b, w) :: ps, .cons h t => by
    obtain ⟨e, hw⟩ := h
    dsimp only at e
    subst e
    unfold Uk.putF L2.putF
    by_cases h : a = f
    · subst h
      rw [if_pos rfl, if_pos rfl]
      exact .cons ⟨rfl, hv⟩ t
    · have h2 : ¬ sS a = sS f := fun z => h (sS_inj z)
      rw [if_neg h, if_neg h2]
      exact .cons ⟨rfl, hw⟩ (putF_rel hv t)
/-- o.f -/
theorem pe_attD (O : XOk X ck c N sc E) {p : PySem.Expr} {f : String} {pos : Pos} {m : Env → G → Uk.R D} (hb : noSup p = true) (ha : PE X p (LE X E m)) : PE X (.Attribute p (sS f) pos) (LE X E fun e g => (m e g).bind fun x g => attr c x f g) := by
  refine ⟨fun pins s σ H Q I ⟨r, g, e, R, er, hp⟩ => ?_⟩
  refine attr_of (base_plain hb) (LE.seq ha I R er hp fun u s1 r1 g1 H1 d v I1 x R1 er1 hv ru hp => ?_)
  cases d with
  | ref i =>
    obtain ⟨a, ea, rfl⟩ := hv.ref_inv
    have ru : u = Value.ref a := ru
    subst ru
    obtain ⟨o, ho, oo⟩ := R1.get ea
    unfold attr at hp
    dsimp only at hp
    rw [ho] at hp
    cases o with
    | ins k fs =>
      dsimp only at hp
      split at hp
      · exact hp.elim
      · rename_i hk
        have hk : c.P.cls k = true := by simpa using hk
        obtain ⟨C, dx, ps, h0, h1, h2, ca⟩ := ins_cls O R1 ea ho hk
        split at hp
        · rename_i hpr
          have hp2 : Post X.K X.mg (E σ) r1 H1 ((noX (c.call1 k f [.ref i] g1)).bind fun d g => .ok d g) Q := by
            have e2 : ((noX (c.call1 k f [.ref i] g1)).bind fun d g => .ok d g) = noX (c.call1 k f [.ref i] g1) := by
              cases noX (c.call1 k f [.ref i] g1) <;> rfl
            rw [e2]
            exact hp
          obtain ⟨d, g', hc, hp3⟩ := noX_post (E' := E σ) (α := Unit) hp2
          obtain ⟨fd, hfd, hl⟩ := O.ar1 k f [.ref i] g1 (by rw [hc]; exact fun z => by cases z)
          obtain ⟨pr, fa, dt, PO, at_⟩ := O.gf.prop k f fd C hk hfd hpr h0
          obtain ⟨n, hr, _, hc1⟩ := O.room
          rcases hc1 with z | ⟨m', hm, F⟩
          · rw [z] at hc; cases hc
          · subst hm
            refine getprop_ok (E := E0) I1 h1 ca.cl PO (F k f fd fa dt hfd at_) hr at_.bi .nil passL ⟨by rw [← hl]; rfl, r1, g1, [.ref i], R1, .cons (.ref ea) (VRs.nil_iff.mpr rfl), ?_⟩
            rw [hc]
            exact hp3
        · rename_i hpr
          split at hp
          · rename_i hf
            have hlk := lookF_rel (f := f) h2
            cases hlo : lookF f fs with
            | none => rw [hlo] at hp; exact hp.elim
            | some d =>
              rw [hlo] at hp hlk
              obtain ⟨w, h3, h4⟩ := hlk
              have hq : Q w H1 := Post.here (d := d) hp R1 h4
              exact getattr_ok I1 h1 ca.cl (ca.fld f hf) h3 fun u s2 I2 ru2 => ⟨w, H1, I2, ru2, hq⟩
          · exact hp.elim
    | lst _ => exact hp.elim
    | dK _ => exact hp.elim
    | dT _ => exact hp.elim
  | _ => exact hp.elim
end
end Uk
end
section
set_option Elab.async false
set_option linter.all false
set_option maxRecDepth 100000
set_option autoImplicit false
set_option maxHeartbeats 1000000
namespace Uk
open PySem PySem.Spec PyProof.Rows L2
section
variable {X : L2.Cx} {ck : Arguments → List Stmt → Scope → FDef → Bool} {c : Cx} {N : List String} {sc : Scope} {E : L2.St → XK} {r : List Addr} {H : Hp} {g : G} {Q : VK} {pins : List (Addr × Obj)} {s : Shared} {σ : L2.St} {e : Env}
/-- an object written over -/
theorem Post.put {d : D} {v : V} {i : Nat} {a : Addr} {o' : O} {ho ho' : HO} (hp : Post X.K X.mg (E σ) r H (.ok d (g.set i o')) Q) (R : Rel X.K X.mg r g H) (hi : r[i]? = some a) (h : H a = some ho) (w : Wr ho) (n : OR X.K X.mg r (upd H a ho') a o') (q : VR X.K r H d v) : Q v (upd H a ho') :=
  hp r _ _ (.put h w) (R.put hi h w n) (VR.mono (.put h w) _ _ q)
theorem lst_put {a : Addr} {vs ws : List V} {xs ys : List D} (h : H a = some (.lst vs)) (q : VRs X.K r H ys ws) : OR X.K X.mg r (upd H a (.lst ws)) a (.lst ys) := ⟨ws, upd_same, VRs.mono (.put h trivial) _ _ q⟩
theorem dropLast_rel {K : PySem.W.Frag} {xs : List D} {vs : List V} (h : VRs K r H xs vs) : VRs K r H xs.dropLast vs.dropLast := by
  rw [List.dropLast_eq_take, List.dropLast_eq_take, h.length]
  exact h.take _
def LM.id : LM → String
  | .append => "list.append"
  | .extend => "list.extend"
  | .pop => "list.pop"
theorem LM.slot {m : String} {q : LM} (h : LM.of m = some q) : Slot "list" (sS m) q.id ∧ typeOf (.builtin q.id) = pure (.type "method_descriptor") := by
  unfold LM.of at h
  split at h
  · rename_i e
    subst e
    cases h
    exact ⟨PySem.F.slot_list_append, PySem.F.type_list_append⟩
  · split at h
    · rename_i e
      subst e
      cases h
      exact ⟨PySem.F.slot_list_extend, PySem.F.type_list_extend⟩
    · split at h
      · rename_i e
        subst e
        cases h
        exact ⟨PySem.F.slot_list_pop, PySem.F.type_list_pop⟩
      · cases h
/-- the methods of lists -/
theorem list_meth {i : Nat} {m : LM} {ds : List D} {a : Addr} {vs : List V} {us : List Value} (I : Inv X pins σ H s) (R : Rel X.K X.mg r g H) (ea : r[i]? = some a) (hd : VRs X.K r H ds vs) (ru : Vals vs us)
    (hp : Post X.K X.mg (E σ) r H (listM (.ref i) m ds g) Q) : wpAny (model X.prog X.w) X.A (PySem.call (.builtin m.id) (.ref a :: us)) (EP X pins σ Q) X.xe s := by
  have rv : RelV (V.ref a) (Value.ref a) := rfl
  obtain ⟨o, ho, oo⟩ := R.get ea
  unfold listM at hp
  dsimp only at hp
  rw [ho] at hp
  cases o with
  | dK _ => exact hp.elim
  | dT _ => exact hp.elim
  | ins _ _ => exact hp.elim
  | lst xs =>
  obtain ⟨ws, h1, h2⟩ := oo
  dsimp only at hp
  split at hp
  · rename_i y
    split at hp
    · rename_i hl
      obtain ⟨w, rfl, hy⟩ := hd.one
      refine mt_append pins s σ H _ _ _ us Q I rv ru ⟨a, ws, w, rfl, rfl, h1, by rw [h2.length, ← line_eq]; exact hl, ?_⟩
      exact Post.put hp R ea h1 trivial (lst_put (xs := xs) h1 (h2.append (.cons hy (VRs.nil_iff.mpr rfl)))) .non
    · exact hp.elim
  · rename_i b
    split at hp
    · rename_i ys hb
      split at hp
      · rename_i hl
        obtain ⟨w, rfl, hy⟩ := hd.one
        obtain ⟨p, ep, rfl⟩ := hy.ref_inv
        obtain ⟨zs, h3, h4⟩ := R.at_ b p _ ep hb
        refine mt_extend pins s σ H _ _ _ us Q I rv ru ⟨a, p, ws, zs, rfl, rfl, h1, h3, by rw [h2.length, h4.length, ← line_eq]; exact hl, ?_⟩
        exact Post.put hp R ea h1 trivial (lst_put (xs := xs) h1 (h2.append h4)) .non
      · exact hp.elim
    · exact hp.elim
  · rw [VRs.nil_iff.mp hd] at ru
    cases hg : xs.getLast? with
    | none => rw [hg] at hp; exact hp.elim
    | some y =>
      rw [hg] at hp
      have hy : xs[xs.length - 1]? = some y := by rw [← List.getLast?_eq_getElem?]; exact hg
      obtain ⟨w, h3, h4⟩ := h2.get hy
      refine mt_pop pins s σ H _ _ _ us Q I rv ru ⟨a, ws, w, rfl, rfl, h1, by rw [h2.length]; exact h3, ?_⟩
      exact Post.put (d := y) hp R ea h1 trivial (lst_put (xs := xs) h1 (dropLast_rel h2)) h4
  · rename_i k
    split at hp
    · rename_i hk
      obtain ⟨w, rfl, hy⟩ := hd.one
      cases hg : xs[k.toNat]? with
      | none => rw [hg] at hp; exact hp.elim
      | some y =>
        rw [hg] at hp
        obtain ⟨w', h3, h4⟩ := h2.get hg
        have hlt : k.toNat < xs.length := (List.getElem?_eq_some_iff.mp hg).1
        have hix : seqIndex? k ws.length = some k.toNat := by
          have e1 : L2.ixN ws.length k = some k.toNat := by
            unfold L2.ixN
            rw [if_pos hk.1, if_pos (by rw [h2.length]; omega)]
          exact (ixN_seq e1).1
        refine mt_popAt pins s σ H _ _ _ us Q I rv ru ⟨a, ws, k, k.toNat, w', rfl, by rw [hy.int_inv], h1, by omega, by omega, hix, h3, ?_⟩
        exact Post.put (d := y) hp R ea h1 trivial (lst_put (xs := xs) h1 (h2.erase _)) h4
    · exact hp.elim
  · exact hp.elim
/-- o.m(..) -/
theorem pe_metD (O : XOk X ck c N sc E) {p : PySem.Expr} {ps : List PySem.Expr} {m : String} {apos pos : Pos} {mo : Env → G → Uk.R D} {ma : Env → G → Uk.R (List D)} (hb : noSup p = true) (hpl : ∀ p ∈ ps, plainP p = true) (hnil : ps = [] → ∀ e g, ma e g = .ok [] g) (hlen : ps.length < 30) (hline : lineB apos pos = true)
    (ho : PE X p (LE X E mo)) (ha : PA X ps (LA X E ma)) : PE X (.Call (.Attribute p (sS m) apos) ps [] pos) (LE X E fun e g => (mo e g).bind fun x g => match kindOf c.P x m g with
      | some .lst => orElse (LM.of m) fun q => (ma e g).bind fun ds g => listM x q ds g
      | some (.ins k) => (ma e g).bind fun ds g => c.call k m (x :: ds) g
      | none => .bad) := by
  refine ⟨fun pins s σ H Q I ⟨r, g, e, R, er, hp⟩ => ?_⟩
  refine methodCall_gen hb hpl hlen hline (LE.seq ho I R er hp fun u s1 r1 g1 H1 d v I1 x R1 er1 hv ru hp pl => ?_)
  cases hk : kindOf c.P d m g1 with
  | none => rw [hk] at hp; exact hp.elim
  | some kd =>
    rw [hk] at hp
    unfold kindOf at hk
    cases d with
    | ref i =>
      obtain ⟨a, ea, rfl⟩ := hv.ref_inv
      have ru : u = Value.ref a := ru
      subst ru
      obtain ⟨o, ho1, oo⟩ := R1.get ea
      dsimp only at hk
      rw [ho1] at hk
      cases o with
      | lst xs =>
        cases hk
        obtain ⟨vs, h1, h2⟩ := oo
        cases hm : LM.of m with
        | none => rw [hm] at hp; exact hp.elim
        | some q =>
          rw [hm] at hp
          have hp : Post X.K X.mg (E σ) r1 H1 ((ma e g1).bind fun ds g => listM (.ref i) q ds g) Q := hp
          obtain ⟨sl, ty⟩ := LM.slot hm
          obtain ⟨z, its, n, rv, hob⟩ := I1.hok a _ h1
          refine getMethod_builtin (T := "list") ⟨_, hob, rfl⟩ PySem.F.plainAttrs_list sl ty (fun a' e' => by cases e'; exact ⟨_, hob, rfl⟩) ?_
          cases ps with
          | nil =>
            have hp : Post X.K X.mg (E σ) r1 H1 ((ma e g1).bind fun ds g => listM (.ref i) q ds g) Q := hp
            rw [hnil rfl] at hp
            exact Calls.callWith_builtin rfl (PySem.evalArgs_none (list_meth I1 R1 ea (VRs.nil_iff.mpr rfl) .nil hp))
          | cons p0 ps0 =>
            have st := star_plain (ps := ps0) (env := X.env) (hpl p0 List.mem_cons_self)
            have ba : (backTo pos (starEach ps0 X.env)).any (·.1) = false := back_any fun q hq => hpl q (List.mem_cons_of_mem _ hq)
            have hA : wpAny (model X.prog X.w) X.A (spliced (backTo pos (starEach (p0 :: ps0) X.env))) (fun us s2 => wpAny (model X.prog X.w) X.A (PySem.call (.builtin q.id) (.ref a :: us)) (EP X pins σ Q) X.xe s2) X.xe s1 :=
              LA.seq ha pos I1 R1 er1 hp fun us s2 r2 g2 H2 ds vs I2 x2 R2 er2 hd ru2 hp2 => list_meth I2 R2 (x2.get ea) hd ru2 hp2
            rw [st] at hA ⊢
            exact Calls.callWith_builtin (by show (false || (backTo pos (starEach ps0 X.env)).any (·.1)) = false; rw [ba] <;> rfl) (Calls.evalArgs_plain hA)
      | dK _ => cases hk
      | dT _ => exact oo.elim
      | ins k fs =>
        dsimp only at hk
        split at hk
        · rename_i hc
          cases hk
          rw [Bool.and_eq_true, Bool.and_eq_true, Bool.and_eq_true, Bool.not_eq_true'] at hc
          obtain ⟨⟨⟨hno, hcl⟩, hpr⟩, hsm⟩ := hc
          have hp : Post X.K X.mg (E σ) r1 H1 ((ma e g1).bind fun ds g => c.call k m (.ref i :: ds) g) Q := hp
          obtain ⟨C, dx, qs, h0, h1, h2, ca⟩ := ins_cls O R1 ea ho1 hcl
          have hlk := lookF_rel (f := m) h2
          cases hlo : lookF m fs with
          | some _ => rw [hlo] at hno; exact absurd hno (by simp)
          | none =>
          rw [hlo] at hlk
          obtain ⟨fd, hfd⟩ := Option.isSome_iff_exists.mp hsm
          obtain ⟨fa, dt, M, at_⟩ := O.gf.met k m fd C hcl hfd hpr h0
          refine getmeth_ok I1 h1 ca.cl M hlk ?_
          refine callWith_go (first := [.ref a]) ha hpl hnil M.kp I1 R1 er1 hp fun us s2 r2 g2 H2 ds vs I2 x2 R2 er2 hd ru2 hp2 => ?_
          by_cases hbad : c.call k m (.ref i :: ds) g2 = .bad
          · rw [hbad] at hp2; exact hp2.elim
          · obtain ⟨fd', hfd', hl⟩ := O.ar0 k m _ g2 hbad
            rw [hfd] at hfd'
            cases hfd'
            exact run0 O hfd at_ I2 R2 (ds := .ref i :: ds) (vs := .ref a :: vs) (.cons (.ref (x2.get ea)) hd) (.cons rfl ru2) hl hp2
        · cases hk
    | _ => cases hk
/-- f(..) -/
theorem pe_callD (O : XOk X ck c N sc E) {ps : List PySem.Expr} {f : String} {p pos : Pos} {ma : Env → G → Uk.R (List D)} (hg : glB sc (sS f) = true) (hpl : ∀ p ∈ ps, plainP p = true) (hnil : ps = [] → ∀ e g, ma e g = .ok [] g) (hfn : (c.P.fn "" f).isSome = true)
    (ha : PA X ps (LA X E ma)) : PE X (.Call (.Name (sS f) p) ps [] pos) (LE X E fun e g => (ma e g).bind fun ds g => c.call "" f ds g) := by
  refine ⟨fun pins s σ H Q I ⟨r, g, e, R, er, hp⟩ => ?_⟩
  obtain ⟨fd, hfd⟩ := Option.isSome_iff_exists.mp hfn
  obtain ⟨fa, dt, hm, at_⟩ := O.gf.fn f fd hfd
  obtain ⟨gl, nd, _⟩ := gl_of O hg
  have kp : PySem.W.keepIn X.K (.ref fa) = true := by
    obtain ⟨_, _, _, _, _, _, _, F, _⟩ := at_.ex
    exact F.kp
  refine wpAny_Call_Name_kw (ld_glob I gl hm ?_ nd)
  refine callWith_go (first := []) ha hpl hnil kp I R er hp fun us s2 r2 g2 H2 ds vs I2 x2 R2 er2 hd ru2 hp2 => ?_
  by_cases hbad : c.call "" f ds g2 = .bad
  · rw [hbad] at hp2; exact hp2.elim
  · obtain ⟨fd', hfd', hl⟩ := O.ar0 "" f _ g2 hbad
    rw [hfd] at hfd'
    cases hfd'
    exact run0 O hfd at_ I2 R2 hd ru2 hl hp2
where
  gl_of (O : XOk X ck c N sc E) {x : Str} (hg : glB sc x = true) : Gl X x ∧ (x == ("__debug__" : Str)) = false ∧ x ≠ "__name__" := by
    unfold glB nmB at hg
    rw [Bool.and_eq_true, Bool.and_eq_true, Bool.and_eq_true, Bool.not_eq_true', Bool.not_eq_true', Bool.not_eq_true'] at hg
    obtain ⟨⟨⟨h1, _⟩, h2⟩, h3⟩ := hg
    refine ⟨?_, h1, fun z => by rw [z] at h2; simp at h2⟩
    unfold Gl PySem.Env.kindOf
    rw [O.sc]
    split at h3
    · rename_i q; exact q
    · cases h3
/-- C(..) -/
theorem pe_mkD (O : XOk X ck c N sc E) {ps : List PySem.Expr} {k : String} {p pos : Pos} {ma : Env → G → Uk.R (List D)} (hg : glB sc (sS k) = true) (hpl : ∀ p ∈ ps, plainP p = true) (hnil : ps = [] → ∀ e g, ma e g = .ok [] g) (hk : c.P.cls k = true)
    (hpr : c.P.prop k "__init__" = false) (ha : PA X ps (LA X E ma)) : PE X (.Call (.Name (sS k) p) ps [] pos) (LE X E fun e g => (ma e g).bind fun ds g => make c k ds g) := by
  refine ⟨fun pins s σ H Q I ⟨r, g, e, R, er, hp⟩ => ?_⟩
  obtain ⟨C, hm, ca⟩ := O.gf.cls k hk
  obtain ⟨gl, nd, _⟩ := pe_callD.gl_of O hg
  obtain ⟨fm, M⟩ := ca.mkr
  refine wpAny_Call_Name_kw (ld_glob I gl hm ?_ nd)
  refine callWith_go (first := []) ha hpl hnil M.kp I R er hp fun us s2 r2 g2 H2 ds vs I2 x2 R2 er2 hd ru2 hp2 => ?_
  unfold make at hp2
  rw [if_pos hk] at hp2
  by_cases hbad : c.call1 k "__init__" (.ref g2.length :: ds) (g2 ++ [.ins k []]) = .bad
  · rw [hbad] at hp2; exact hp2.elim
  · obtain ⟨fd, hfd, hl⟩ := O.ar1 k "__init__" _ _ hbad
    obtain ⟨fa, dt, Mt, at_⟩ := O.gf.met k "__init__" fd C hk hfd hpr hm
    have hfa : fm = fa := by
      have h1 := M.init
      have h2 := Mt.at_
      rw [h1] at h2
      cases h2
      rfl
    subst hfa
    obtain ⟨n, hr, _, hc1⟩ := O.room
    rcases hc1 with z | ⟨m, hmn, F⟩
    · exact absurd (z _ _ _ _) hbad
    · subst hmn
      refine run_mkS M (F k "__init__" fd fm dt hfd at_) hr at_.bi (O.pass σ) I2 ru2 fun x dx hx hdx hne => ?_
      refine ⟨by rw [← hl, List.length_cons, List.length_cons, hd.length], r2 ++ [x], g2 ++ [.ins k []], .ref g2.length :: ds, ?_, ?_, ?_⟩
      · have R3 : Rel X.K X.mg r2 g2 (upd H2 dx (.own x)) := R2.beside hdx
        have hx3 : upd H2 dx (.own x) x = none := by rw [upd_ne (Ne.symm hne)]; exact hx
        exact R3.new hx3 ⟨C, dx, [], hm, upd_same, .nil⟩
      · have hx3 : upd H2 dx (.own x) x = none := by rw [upd_ne (Ne.symm hne)]; exact hx
        have ex : Ext r2 H2 (r2 ++ [x]) (upd (upd H2 dx (.own x)) x (.ins C dx [])) := (Ext.new hdx).trans (Ext.newR hx3)
        refine .cons (.ref ?_) (VRs.mono ex _ _ hd)
        rw [← R2.len]
        exact get_last
      · have hx3 : upd H2 dx (.own x) x = none := by rw [upd_ne (Ne.symm hne)]; exact hx
        have ex : Ext r2 H2 (r2 ++ [x]) (upd (upd H2 dx (.own x)) x (.ins C dx [])) := (Ext.new hdx).trans (Ext.newR hx3)
        cases hres : c.call1 k "__init__" (.ref g2.length :: ds) (g2 ++ [.ins k []]) with
        | bad => exact absurd hres hbad
        | exc y g3 =>
          rw [hres] at hp2
          exact fun r' H' cl d y' R' q => hp2 r' H' cl d (ex.trans y') R' q
        | ok d g3 =>
          rw [hres] at hp2
          intro r' v H' y' R' q
          cases d with
          | non =>
            refine ⟨q.non_inv, ?_⟩
            have hp2 : Post X.K X.mg (E σ) r2 H2 (.ok (.ref g2.length) g3) Q := hp2
            refine hp2 r' _ H' (ex.trans y') R' (.ref (y'.get ?_))
            rw [← R2.len]
            exact get_last
          | _ => exact hp2.elim
/-- isinstance(x, T) -/
theorem pe_isiD (O : XOk X ck c N sc E) {p : PySem.Expr} {t : String} {p1 p2 pos : Pos} {m : Env → G → Uk.R D} (hg : glB sc (sS "isinstance") = true) (hg2 : glB sc (sS t) = true) (hpl : plainP p = true) (ht : c.P.cls t = true ∨ t ∈ ["int", "bool", "str", "tuple", "list", "dict"])
    (ha : PE X p (LE X E m)) : PE X (.Call (.Name (sS "isinstance") p1) [p, .Name (sS t) p2] [] pos) (LE X E fun e g => (m e g).bind fun x g => orElse (isInst c g x t) fun b => .ok (.bl b) g) := by
  obtain ⟨gl, nd, nn⟩ := pe_callD.gl_of O hg
  obtain ⟨gl2, nd2, nn2⟩ := pe_callD.gl_of O hg2
  have hv : ∃ cv u, PE X (.Name (sS t) p2) (tC cv) ∧ ClsV cv u ∧ ClsN X c.P t u := by
    by_cases hc : c.P.cls t = true
    · obtain ⟨C, hm, ca⟩ := O.gf.cls t hc
      exact ⟨.ref C, .ref C, pe_glob gl2 hm rfl nd2, .own C, .inr ⟨hc, C, hm, rfl⟩⟩
    · rcases ht with ht | ht
      · exact absurd ht hc
      · have hm : X.mg (sS t) = none := O.gf.blt t (by
          simp only [List.mem_cons, List.not_mem_nil, or_false] at ht
          unfold bnames
          simp only [List.mem_cons, List.not_mem_nil, or_false]
          rcases ht with rfl | rfl | rfl | rfl | rfl | rfl <;> simp)
        have hb : bootBuiltins (sS t) = some (.type t) := by
          simp only [List.mem_cons, List.not_mem_nil, or_false] at ht
          rcases ht with rfl | rfl | rfl | rfl | rfl | rfl <;> decide +kernel
        exact ⟨.ty t, .type t, pe_bltn gl2 hm hb rfl nn2 nd2, .ty t, .inl ⟨by simpa using hc, ht, rfl⟩⟩
  obtain ⟨cv, u, hcv, hcu, hcn⟩ := hv
  have hA : PA X [p, .Name (sS t) p2] (tCons (LE X E m) (tCons (tC cv) tNil)) := pa_cons ha (pa_cons hcv pa_nil (star_plain rfl)) (star_plain hpl)
  have hC := pe_callB (pos := pos) (p := p1) call_isi gl (O.gf.blt "isinstance" (by simp [bnames])) (by decide +kernel) hA nn nd (star_plain hpl) (by rw [star_plain (by rfl)]; rfl)
  refine ⟨fun pins s σ H Q I ⟨r, g, e, R, er, hp⟩ => hC.run pins s σ H Q I ?_⟩
  refine ⟨r, g, e, R, er, ?_⟩
  have hp : Post X.K X.mg (E σ) r H ((m e g).bind fun x g => orElse (isInst c g x t) fun b => .ok (.bl b) g) Q := hp
  show Post X.K X.mg (E σ) r H (m e g) fun x H1 => rIsi X.K [x, cv] H1 Q
  cases hm : m e g with
  | bad => rw [hm] at hp; exact hp.elim
  | exc y g1 => rw [hm] at hp; exact hp
  | ok d g1 =>
    rw [hm] at hp
    intro r' v H' x R' q
    have hp : Post X.K X.mg (E σ) r H (orElse (isInst c g1 d t) fun b => .ok (.bl b) g1) Q := hp
    cases hz : isInst c g1 d t with
    | none => rw [hz] at hp; exact hp.elim
    | some z =>
      rw [hz] at hp
      obtain ⟨T, h1, h2⟩ := isi_ty (u := u) O.gf R' q hz hcn
      exact ⟨v, cv, T, u, z, rfl, hcu, h1, h2, Post.here (d := .bl z) (hp.ext x) R' .bl⟩
end
end Uk
end
section
set_option Elab.async false
set_option linter.all false
set_option maxRecDepth 100000
set_option autoImplicit false
set_option maxHeartbeats 1000000
namespace Uk
open PySem PySem.Spec PyProof.Rows L2
/-! ## enumerate(tuple) -/
theorem meets_enumerate_new0 {v : Value} {o : Obj} {H : Heap → Prop} (B : Begins v o H) :
    Meets (Builtin.«enumerate.__new__» ⟨[.type "enumerate", v], []⟩) (fun _ R s => H s.heap ∧
      R (.ok (.ret (.ref (s.heap.push o).objs.size))) { s with heap := (s.heap.push o).push { cls := .type "enumerate", data := .fields #[.none, .bool false, .ref s.heap.objs.size, rawInt 0, .none, .none] } }) :=
  .of_wp fun prog w A R s h => by
    obtain ⟨hp, g, d, tk, os⟩ := s
    obtain ⟨h1, h⟩ := h
    have hsub := sub_enumerate
    have q1 : ∀ {A' : Around} {E : Value → Shared → Prop} {Q : Value → Shared → Prop}, Q (.ref hp.objs.size) ⟨hp.push o, g, d, tk, os⟩ → wpAny (model prog w) A' (pyIter v) Q E ⟨hp, g, d, tk, os⟩ :=
      fun q => B.iter prog w _ _ ⟨hp, g, d, tk, os⟩ _ h1 q
    wp_walk using q1
    refine wpAny_stack_any fun st => wpAny_pure ?_
    split
    · rename_i c _ _ _ _ _
      cases (c == Value.type "enumerate")
      · wp_walk using q1
        exact ⟨_, rfl, h⟩
      · wp_walk using q1
        exact ⟨_, rfl, h⟩
    · wp_walk using q1
      exact ⟨_, rfl, h⟩
section
variable {prog : Program} {w : World} {A : Around} {E : Value → Shared → Prop} {s : Shared}
theorem enum_begins0 {v : Value} {o : Obj} {H : Heap → Prop} {Q : Value → Shared → Prop} (B : Begins v o H) (h1 : H s.heap)
    (h : ∀ h', IsEnum h' (s.heap.objs.size + 1) s.heap.objs.size 0 .none → h'.get? s.heap.objs.size = some o → h'.objs.size = s.heap.objs.size + 2 →
      (∀ b o, s.heap.get? b = some o → h'.get? b = some o) → Q (.ref (s.heap.objs.size + 1)) { s with heap := h' }) :
    wpAny (model prog w) A (PySem.call (.type "enumerate") [v]) Q E s := by
  refine callType_new F.called_enumerate (by decide) (F.typeCall_enumerate_1 _) (F.newCall_enumerate_1 _) (fun obj => F.args_object_init_2 obj _) F.entry_enumerate_new
    (meets_enumerate_new0 B) ⟨h1, ?_⟩
  have hz : (s.heap.push o).objs.size = s.heap.objs.size + 1 := Heap.size_push ..
  show _ ∧ _
  rw [hz]
  have he : IsEnum ((s.heap.push o).push { cls := .type "enumerate", data := .fields #[.none, .bool false, .ref s.heap.objs.size, rawInt 0, .none, .none] }) (s.heap.objs.size + 1) s.heap.objs.size 0 .none := by
    have := Heap.get?_push_size (s.heap.push o) (o := { cls := .type "enumerate", data := .fields #[.none, .bool false, .ref s.heap.objs.size, rawInt 0, .none, .none] }) rfl
    rw [hz] at this; exact this
  refine ⟨⟨_, he, rfl⟩, h _ he (Heap.get?_push_of_some _ (Heap.get?_push_size _ B.free)) (by rw [Heap.size_push, hz]) fun b o x => Heap.get?_push_of_some _ (Heap.get?_push_of_some _ x)⟩
theorem next_enumT_end {e it l : Addr} {i : Nat} {items : Array Value} {old : Value} {Q : Option Value → Shared → Prop} (hh : A.handled = none)
    (he : IsEnum s.heap e it i old) (hit : s.heap.IsTupleIter it l i) (hl : s.heap.IsTuple l items) (hx : items[i]? = none)
    (hQ : ∀ h', Heap.ExtBut it s.heap h' → Q none { s with heap := h' }) : wpAny (model prog w) A (pyNext (.ref e)) Q E s := by
  have hT : s.TypeIs (.ref e) "enumerate" := ⟨_, he, rfl⟩
  unfold pyNext
  refine wpAny_bind (wpAny_attempt (wpAny_callSpecial?_slot (name := Str.ofString "__next__") hT F.slot_enumerate_next
    (wpAny_call_entry F.slot_enumerate_next hT F.entry_enumerate_next ?_ (F.args_enumerate_next_1 _))))
  show wpAny _ _ (field (.ref e) 2 >>= _) _ _ _
  refine wpAny_bind (wpAny_field he rfl (x := .ref it) rfl ?_)
  refine wpAny_bind (wpAny_nextOf_tuple_end hh hit hl hx fun h' x he' hx' => ?_)
  obtain ⟨o, ho, hc⟩ := hx'
  refine wpAny_bind (wpAny_isInstance (T := "StopIteration") (b := true) ⟨o, ho, hc⟩ isSubtype_stop ?_)
  exact wpAny_pure (hQ _ he')
end
/-- the tuple at a, each item in a new pair -/
def IteT (K : PySem.W.Frag) (a : Addr) : L2.It :=
  ⟨fun i H => ∃ (xs : List V) (x : V), SqT K H a xs ∧ xs[i]? = some x, fun i H v H' => ∃ T x, v = .ref T ∧ H T = none ∧ H' = upd H T (.tup [.int (i : Nat), x]) ∧ ∀ xs, SqT K H a xs → xs[i]? = some x, fun i H => ∃ xs : List V, SqT K H a xs ∧ xs.length ≤ i⟩
theorem turn_enumT {P : Program} {w : World} {K : PySem.W.Frag} {elts : List Expr} {kk : Nat} {tpos : Pos} (a e it : Addr) :
    Turn P w K (.Tuple elts kk tpos) (IteT K a) [e, it] e (fun i h => (∃ old, IsEnum h e it ((i : Nat) : Int) old) ∧ h.IsTupleIter it a i ∧ e ≠ it) where
  mem := by simp
  obj := fun i h st b hb => by
    obtain ⟨⟨old, he⟩, ⟨o, ho, hc, hd⟩, _⟩ := st
    have e' : b = e ∨ b = it := by simpa using hb
    rcases e' with z | z
    · rw [z]; exact ⟨_, he, fun v q => nomatch q⟩
    · rw [z]; exact ⟨o, ho, fun v q => by rw [hd] at q; cases q⟩
  keep := fun i h h' st k => let ⟨⟨old, he⟩, hi, hne⟩ := st; ⟨⟨old, k e (by simp) _ he⟩, hi.at fun o q => k it (by simp) o q, hne⟩
  item := by
    intro X hP hw hK hc i pins s σ H E I hf st hg
    subst hP hw hK
    obtain ⟨⟨old, he⟩, hit, hne⟩ := st
    obtain ⟨xs, x, hq, hx⟩ := hg
    obtain ⟨its, rv, p, hz⟩ := I.tuple hq
    obtain ⟨u, hu, ru⟩ := rv.get hx
    have hel : e < s.heap.objs.size := Heap.lt_size he
    have hil : it < s.heap.objs.size := by obtain ⟨_, q, _⟩ := hit; exact Heap.lt_size q
    have p' : s.heap.IsTuple a its.toArray := p
    have hea : e ≠ a := fun z => by
      obtain ⟨o, ho, hc, _⟩ := p'
      rw [← z] at ho
      rw [show s.heap.get? e = some _ from he] at ho
      cases ho
      exact absurd hc (by simp)
    have hai : a ≠ it := fun z => by
      obtain ⟨o, ho, hc, _⟩ := p'
      obtain ⟨o2, ho2, hc2, _⟩ := hit
      rw [z, ho2] at ho
      cases ho
      rw [hc2] at hc
      exact absurd hc (by simp)
    have hlt : i < its.toArray.size := by
      have := (List.getElem?_eq_some_iff.mp hu).1
      simpa using this
    refine wpAny_pyNext_enum_itemD (Draws.tuple (A := X.A.in1) (I.ok.hd hc) it a hai its.toArray) he ⟨hit, p'⟩ hlt hne (by simp [hne, hea]) fun y h' tk hy ho hit' hT hsz hk => ?_
    have ey : y = u := by
      have hy : its.toArray[i]? = some y := hy
      rw [List.getElem?_toArray, hu] at hy
      exact (Option.some.inj hy).symm
    subst ey
    refine ⟨_, rfl, wpAny_letOwnedTupleGo_enum (s := { s with heap := h', toks := tk + 1 }) ho fun h'' he' sb => ?_⟩
    have hT2 : h''.get? s.heap.objs.size = some { cls := .type "tuple", data := .seq #[.int i tk, y] } := (sb.2 _ (Nat.ne_of_gt hel)).trans hT
    have new : ObjOk X.prog X.w (upd H s.heap.objs.size (.tup [.int (i : Nat), x])) h'' s.heap.objs.size (.tup [.int (i : Nat), x]) :=
      ⟨by show 2 ≤ sizeLine; decide, [.int i tk, y], .cons ⟨_, rfl⟩ (.cons ru .nil), ⟨_, hT2, rfl, _, rfl⟩⟩
    have I1 : Inv X pins σ (upd H s.heap.objs.size (.tup [.int (i : Nat), x])) { s with heap := h'', toks := tk + 1 } :=
      I.turnedNew (ch := [e, it]) (fun b ob hb q => (sb.2 b (fun z => hb (by simp [z]))).trans (hk b ob (fun z => hb (by simp [z])) (fun z => hb (by simp [z])) q)) hf (Nat.le_refl _) new
    refine ⟨.ref s.heap.objs.size, _, I1, rfl, ⟨_, x, rfl, I.hok.fresh (Nat.le_refl _), rfl, fun ys hy => by rw [I.tuple_inj hy hq]; exact hx⟩, ⟨⟨y, ?_⟩, hit'.1.at fun o q => (sb.2 it (Ne.symm hne)).trans q, hne⟩, fun b hb => ?_⟩
    · have e1 : ((i + 1 : Nat) : Int) = (i : Int) + 1 := by omega
      rw [e1]; exact he'
    · have hb' : b < s.heap.objs.size := by
        have e' : b = e ∨ b = it := by simpa using hb
        rcases e' with z | z
        · rw [z]; exact hel
        · rw [z]; exact hil
      rw [upd_ne (Nat.ne_of_lt hb')]
      exact (hf b hb).1
  done := by
    intro X hP hw hK hc i pins s σ H E I hf st hg
    subst hP hw hK
    obtain ⟨⟨old, he⟩, hit, hne⟩ := st
    obtain ⟨xs, hq, hx⟩ := hg
    obtain ⟨its, rv, p, hz⟩ := I.tuple hq
    obtain ⟨f0, f1, f2, f3, f4, f5⟩ := hf it (by simp)
    have hl := rv.length
    exact next_enumT_end (I.ok.hd hc) he hit (show s.heap.IsTuple a its.toArray from p) (by simp; omega) fun h' eb => ⟨rfl, I.turned (t' := s.toks) (fun b o hb q => eb b o hb q) f0 f1 f3 f4 f5⟩
  self := fun A i s Q E st h => let ⟨⟨_, he⟩, _⟩ := st; wpAny_pyIter_enum he h
def iEnumT (K : PySem.W.Frag) (ta : TA) : TI := fun σ H R => ta σ H fun vs H1 => ∃ a xs, vs = [.ref a] ∧ SqT K H1 a xs ∧ R (IteT K a) H1
theorem pi_enumT {X : L2.Cx} {e : Expr} {ta : TA} {p pos tpos : Pos} {elts : List Expr} {kk : Nat} (hg : Gl X "enumerate") (hm : X.mg "enumerate" = none) (ha : PA X [e] ta) (hs : starEach [e] X.env = [(false, eval e X.env)] := by rfl) :
    PI X (.Tuple elts kk tpos) (.Call (.Name "enumerate" p) [e] [] pos) (iEnumT X.K ta) := by
  refine ⟨fun pins s σ H R I h => ?_⟩
  refine Call_ (ld_blt I hg hm boot_enumerate (PyProof.Rows.callWith_type1 (thn (ha.run pos pins s σ H _ I h) fun us s1 ⟨vs, H1, I1, r1, q1⟩ => ?_) hs rfl))
  obtain ⟨a, xs, ex, hq, q⟩ := q1
  subst ex
  cases r1 with
  | cons r rr =>
    cases rr
    cases r
    obtain ⟨its, rv, p', hz⟩ := I1.tuple hq
    refine enum_begins0 (begins_tuple a its.toArray) (show s1.heap.IsTuple a its.toArray from p') fun h' he hit hsz hk => wpAny_pyIter_enum he ?_
    have I2 : Inv X pins σ H1 { s1 with heap := h' } := I1.kept (t' := s1.toks) hk
    refine ⟨s1.heap.objs.size + 1, [s1.heap.objs.size + 1, s1.heap.objs.size], _, _, H1, rfl, I2, turn_enumT a (s1.heap.objs.size + 1) s1.heap.objs.size, ⟨⟨.none, he⟩, ⟨_, hit, rfl, rfl⟩, Nat.succ_ne_self _⟩, fun b hb => ?_, q⟩
    have e' : b = s1.heap.objs.size + 1 ∨ b = s1.heap.objs.size := by simpa using hb
    have hle : s1.heap.objs.size ≤ b := by
      rcases e' with z | z
      · rw [z]; exact Nat.le_add_right _ _
      · rw [z]; exact Nat.le_refl _
    exact I1.fpOk hle (I1.hok.fresh hle)
end Uk
end
section
set_option Elab.async false
set_option linter.all false
set_option maxRecDepth 100000
set_option autoImplicit false
set_option maxHeartbeats 1000000
namespace Uk
open PySem PySem.Spec PyProof.Rows L2
/-! ## What is walked -/
/-- J yields what w says -/
structure ItOk (K : PySem.W.Frag) (mg : Str → Option Value) (r0 : List Addr) (H0 : Hp) (J : L2.It) (w : Wk) (n : Nat) : Prop where
  stop : ∀ i r g H, Ext r0 H0 r H → Rel K mg r g H → w.item n i g = some none → J.stop i H
  go : ∀ i r g H d, Ext r0 H0 r H → Rel K mg r g H → w.item n i g = some (some d) → J.go i H ∧ ∀ v H', J.yld i H v H' → Ext r H r H' ∧ Rel K mg r g H' ∧ VR K r H' d v
def PostI (K : PySem.W.Frag) (mg : Str → Option Value) (E : XK) (r : List Addr) (H : Hp) (m : Uk.R (Nat × Wk)) (Rr : L2.It → Hp → Prop) : Prop := match m with
  | .ok nw g => ∀ r' H' J, Ext r H r' H' → Rel K mg r' g H' → ItOk K mg r' H' J nw.2 nw.1 → Rr J H'
  | .exc x g => ∀ r' H' cls dx, Ext r H r' H' → Rel K mg r' g H' → XR K mg r' H' x cls dx → E cls dx H'
  | .bad => False
def LI (X : L2.Cx) (E : L2.St → XK) (m : Env → G → Uk.R (Nat × Wk)) : TI := fun σ H Rr => ∃ (r : List Addr) (g : G) (e : Env), Rel X.K X.mg r g H ∧ ER X.K r H e σ ∧ PostI X.K X.mg (E σ) r H (m e g) Rr
section
variable {X : L2.Cx} {ck : Arguments → List Stmt → Scope → FDef → Bool} {c : Cx} {N : List String} {sc : Scope} {E : L2.St → XK} {r : List Addr} {H : Hp} {g : G} {pins : List (Addr × Obj)} {s : Shared} {σ : L2.St} {v : V} {e : Env}
variable {K : PySem.W.Frag} {mg : Str → Option Value}
theorem Wk.tup_ok {a : Addr} {xs : List D} {vs : List V} {n : Nat} (h : SqT K H a vs) (q : VRs K r H xs vs) : ItOk K mg r H (Itt K a) (.tup xs) n where
  stop := fun i r1 g1 H1 x R e => ⟨vs, x.kept.sqT h, by
    have e : some xs[i]? = some none := e
    have e : xs[i]? = none := Option.some.inj e
    rw [q.length]
    exact List.getElem?_eq_none_iff.mp e⟩
  go := fun i r1 g1 H1 d x R e => by
    have e : some xs[i]? = some (some d) := e
    have e : xs[i]? = some d := Option.some.inj e
    obtain ⟨v, e1, e2⟩ := q.get e
    refine ⟨⟨vs, v, x.kept.sqT h, e1⟩, fun w H' ⟨hH, y⟩ => ?_⟩
    subst hH
    have e3 := y vs (x.kept.sqT h)
    rw [e1] at e3
    cases e3
    exact ⟨.refl _ _, R, VR.mono x _ _ e2⟩
theorem Wk.fro_ok {a : Addr} {xs : List D} {vs : List V} {n : Nat} (h : FrL K H a vs) (q : VRs K r H xs vs) : ItOk K mg r H (Itl K a) (.fro xs) n where
  stop := fun i r1 g1 H1 x R e => ⟨vs, (x.kept.frL h).sq, by
    have e : some xs[i]? = some none := e
    have e : xs[i]? = none := Option.some.inj e
    rw [q.length]
    exact List.getElem?_eq_none_iff.mp e⟩
  go := fun i r1 g1 H1 d x R e => by
    have e : some xs[i]? = some (some d) := e
    have e : xs[i]? = some d := Option.some.inj e
    obtain ⟨v, e1, e2⟩ := q.get e
    refine ⟨⟨vs, v, (x.kept.frL h).sq, e1⟩, fun w H' ⟨hH, y⟩ => ?_⟩
    subst hH
    have e3 := y vs (x.kept.frL h).sq
    rw [e1] at e3
    cases e3
    exact ⟨.refl _ _, R, VR.mono x _ _ e2⟩
theorem Wk.etup_ok {a : Addr} {xs : List D} {vs : List V} {n : Nat} (h : SqT K H a vs) (q : VRs K r H xs vs) : ItOk K mg r H (IteT K a) (.etup xs) n where
  stop := fun i r1 g1 H1 x R e => ⟨vs, x.kept.sqT h, by
    have e : some (xs[i]?.map fun x => D.tup [.int i, x]) = some none := e
    have e : xs[i]? = none := Option.map_eq_none_iff.mp (Option.some.inj e)
    rw [q.length]
    exact List.getElem?_eq_none_iff.mp e⟩
  go := fun i r1 g1 H1 d x R e => by
    have e : some (xs[i]?.map fun x => D.tup [.int i, x]) = some (some d) := e
    obtain ⟨d0, e0, ed⟩ := Option.map_eq_some_iff.mp (Option.some.inj e)
    subst ed
    obtain ⟨v, e1, e2⟩ := q.get e0
    refine ⟨⟨vs, v, x.kept.sqT h, e1⟩, fun w H' ⟨T, u, ew, hT, hH, y⟩ => ?_⟩
    subst ew hH
    have e3 := y vs (x.kept.sqT h)
    rw [e1] at e3
    cases e3
    exact ⟨.new hT, R.beside hT, .tup (.of upd_same) (.cons .int (.cons (VR.mono (x.trans (.new hT)) _ _ e2) (VRs.nil_iff.mpr rfl)))⟩
theorem Wk.seq_ok {a : Addr} {i0 n : Nat} (h : r[i0]? = some a) : ItOk K mg r H (Itl K a) (.seq i0) n where
  stop := fun i r1 g1 H1 x R e => by
    have e : ((lsOf g1 i0).map fun xs => xs[i]?) = some none := e
    obtain ⟨xs, e1, e2⟩ := Option.map_eq_some_iff.mp e
    obtain ⟨p, vs, _, ep, h3, h4⟩ := R.lst e1 (.ref (x.get h))
    cases ep
    exact ⟨vs, .of h3, by rw [h4.length]; exact List.getElem?_eq_none_iff.mp e2⟩
  go := fun i r1 g1 H1 d x R e => by
    have e : ((lsOf g1 i0).map fun xs => xs[i]?) = some (some d) := e
    obtain ⟨xs, e1, e2⟩ := Option.map_eq_some_iff.mp e
    obtain ⟨p, vs, _, ep, h3, h4⟩ := R.lst e1 (.ref (x.get h))
    cases ep
    obtain ⟨v, e4, e5⟩ := h4.get e2
    refine ⟨⟨vs, v, .of h3, e4⟩, fun w H' ⟨hH, y⟩ => ?_⟩
    subst hH
    have e6 := y vs (.of h3)
    rw [e4] at e6
    cases e6
    exact ⟨.refl _ _, R, e5⟩
theorem Wk.eseq_ok {a : Addr} {i0 n : Nat} (h : r[i0]? = some a) : ItOk K mg r H (Ite K a) (.eseq i0) n where
  stop := fun i r1 g1 H1 x R e => by
    have e : ((lsOf g1 i0).map fun xs => xs[i]?.map fun x => D.tup [.int i, x]) = some none := e
    obtain ⟨xs, e1, e2⟩ := Option.map_eq_some_iff.mp e
    have e2 : xs[i]? = none := Option.map_eq_none_iff.mp e2
    obtain ⟨p, vs, _, ep, h3, h4⟩ := R.lst e1 (.ref (x.get h))
    cases ep
    exact ⟨vs, .of h3, by rw [h4.length]; exact List.getElem?_eq_none_iff.mp e2⟩
  go := fun i r1 g1 H1 d x R e => by
    have e : ((lsOf g1 i0).map fun xs => xs[i]?.map fun x => D.tup [.int i, x]) = some (some d) := e
    obtain ⟨xs, e1, e2⟩ := Option.map_eq_some_iff.mp e
    obtain ⟨d0, e8, ed⟩ := Option.map_eq_some_iff.mp e2
    subst ed
    obtain ⟨p, vs, _, ep, h3, h4⟩ := R.lst e1 (.ref (x.get h))
    cases ep
    obtain ⟨v, e4, e5⟩ := h4.get e8
    refine ⟨⟨vs, v, .of h3, e4⟩, fun w H' ⟨T, u, ew, hT, hH, y⟩ => ?_⟩
    subst ew hH
    have e6 := y vs (.of h3)
    rw [e4] at e6
    cases e6
    exact ⟨.new hT, R.beside hT, .tup (.of upd_same) (.cons .int (.cons (VR.mono (.new hT) _ _ e5) (VRs.nil_iff.mpr rfl)))⟩
theorem Wk.rng_ok {lo st : Int} {n : Nat} : ItOk K mg r H (Itc lo st n) (.rng lo st) n where
  stop := fun i r1 g1 H1 x R e => by
    have e : some (if i < n then some (D.int (lo + st * i)) else none) = some none := e
    have e := Option.some.inj e
    split at e
    · cases e
    · rename_i hl
      exact Nat.le_of_not_lt hl
  go := fun i r1 g1 H1 d x R e => by
    have e : some (if i < n then some (D.int (lo + st * i)) else none) = some (some d) := e
    have e := Option.some.inj e
    split at e
    · rename_i hl
      cases e
      refine ⟨hl, fun w H' ⟨hH, y⟩ => ?_⟩
      subst hH y
      refine ⟨.refl _ _, R, ?_⟩
      rw [Int.mul_comm st]
      exact .int
    · cases e
theorem Wk.rng1_ok {n : Nat} : ItOk K mg r H (Itr 0 n) (.rng 0 1) n where
  stop := fun i r1 g1 H1 x R e => (Wk.rng_ok (lo := 0) (st := 1) (n := n)).stop i r1 g1 H1 x R e
  go := fun i r1 g1 H1 d x R e => by
    obtain ⟨h1, h2⟩ := (Wk.rng_ok (lo := 0) (st := 1) (n := n)).go i r1 g1 H1 d x R e
    exact ⟨h1, fun v H' ⟨hH, y⟩ => h2 v H' ⟨hH, by rw [y, Int.mul_one]⟩⟩
end
section
variable {X : L2.Cx} {ck : Arguments → List Stmt → Scope → FDef → Bool} {c : Cx} {N : List String} {sc : Scope} {E : L2.St → XK} {r : List Addr} {H : Hp} {g : G} {pins : List (Addr × Obj)} {s : Shared} {σ : L2.St} {v : V} {e : Env}
/-- what an expression's outcome says to a reading -/
theorem LE.to {m : Env → G → Uk.R D} (R : Rel X.K X.mg r g H) (er : ER X.K r H e σ) {Q : VK} (hp : Post X.K X.mg (E σ) r H (m e g) Q) : LE X E m σ H Q := ⟨r, g, e, R, er, hp⟩
theorem PostI.exc {m : Uk.R D} {k : D → G → Uk.R (Nat × Wk)} {Rr : L2.It → Hp → Prop} {x : Exn} {g1 : G} {Q : VK} (hm : m = .exc x g1) (hp : PostI X.K X.mg (E σ) r H (m.bind k) Rr) : Post X.K X.mg (E σ) r H m Q := by
  subst hm
  exact hp
theorem PostI.bad {m : Uk.R D} {k : D → G → Uk.R (Nat × Wk)} {Rr : L2.It → Hp → Prop} (hm : m = .bad) (hp : PostI X.K X.mg (E σ) r H (m.bind k) Rr) : False := by
  subst hm
  exact hp
/-- for x in e -/
theorem pi_seqD {tg p : PySem.Expr} {m : Env → G → Uk.R D} (ha : PE X p (LE X E m)) : PI X tg p (LI X E fun e g => (m e g).bind fun x g => match walkOf x g with
    | some w => .ok w g
    | none => .bad) := by
  refine ⟨fun pins s σ H Rr I ⟨r, g, e, R, er, hp⟩ => ?_⟩
  cases hm : m e g with
  | bad => exact (PostI.bad hm hp).elim
  | exc x g1 => exact (pi_list (tg := tg) ha).run pins s σ H Rr I (LE.to R er (PostI.exc hm hp))
  | ok d g1 =>
    have hp : PostI X.K X.mg (E σ) r H ((m e g).bind _) Rr := hp
    rw [hm] at hp
    have hp : PostI X.K X.mg (E σ) r H (match walkOf d g1 with
      | some w => .ok w g1
      | none => .bad) Rr := hp
    cases d with
    | tup xs =>
      refine (pi_tup (tg := tg) ha).run pins s σ H Rr I (LE.to R er ?_)
      rw [hm]
      intro r' v H' x R' q
      obtain ⟨a, vs, rfl, h1, h2⟩ := q.tup_inv
      exact ⟨a, rfl, ⟨vs, h1⟩, hp r' H' _ x R' (Wk.tup_ok h1 h2)⟩
    | fro xs =>
      refine (pi_list (tg := tg) ha).run pins s σ H Rr I (LE.to R er ?_)
      rw [hm]
      intro r' v H' x R' q
      obtain ⟨a, vs, rfl, h1, h2⟩ := q.fro_inv
      exact ⟨a, rfl, ⟨vs, h1.sq⟩, hp r' H' _ x R' (Wk.fro_ok h1 h2)⟩
    | ref i =>
      refine (pi_list (tg := tg) ha).run pins s σ H Rr I (LE.to R er ?_)
      rw [hm]
      intro r' v H' x R' q
      unfold walkOf at hp
      dsimp only at hp
      cases hl : lsOf g1 i with
      | none => rw [hl] at hp; exact hp.elim
      | some xs =>
        rw [hl] at hp
        obtain ⟨a, vs, ea, rfl, h3, h4⟩ := R'.lst hl q
        exact ⟨a, rfl, ⟨vs, .of h3⟩, hp r' H' _ x R' (Wk.seq_ok ea)⟩
    | _ => exact hp.elim
/-- an argument alone -/
theorem pa1 {p : PySem.Expr} {t : TE} (hpl : plainP p = true) (h : PE X p t) : PA X [p] (tCons t tNil) := pa_cons h pa_nil (star_plain hpl)
theorem star1 {p : PySem.Expr} (hpl : plainP p = true) : starEach [p] X.env = [(false, eval p X.env)] := by rw [star_plain hpl]; rfl
theorem pi_enumD {p : PySem.Expr} {elts : List PySem.Expr} {kk : Nat} {tpos p1 pos : Pos} {m : Env → G → Uk.R D} (O : XOk X ck c N sc E) (hg : glB sc (sS "enumerate") = true) (hpl : plainP p = true) (ha : PE X p (LE X E m)) :
    PI X (.Tuple elts kk tpos) (.Call (.Name (sS "enumerate") p1) [p] [] pos) (LI X E fun e g => (m e g).bind fun x g => match enumOf x g with
    | some w => .ok w g
    | none => .bad) := by
  obtain ⟨gl, nd, nn⟩ := pe_callD.gl_of O hg
  have hm0 := O.gf.blt "enumerate" (by simp [bnames])
  have P1 := pi_enum (elts := elts) (kk := kk) (tpos := tpos) (p := p1) (pos := pos) gl hm0 (pa1 hpl ha) (star1 hpl)
  have P2 := pi_enumT (elts := elts) (kk := kk) (tpos := tpos) (p := p1) (pos := pos) gl hm0 (pa1 hpl ha) (star1 hpl)
  refine ⟨fun pins s σ H Rr I ⟨r, g, e, R, er, hp⟩ => ?_⟩
  cases hm : m e g with
  | bad => exact (PostI.bad hm hp).elim
  | exc x g1 => exact P1.run pins s σ H Rr I (LE.to R er (PostI.exc hm hp))
  | ok d g1 =>
    have hp : PostI X.K X.mg (E σ) r H ((m e g).bind _) Rr := hp
    rw [hm] at hp
    have hp : PostI X.K X.mg (E σ) r H (match enumOf d g1 with
      | some w => .ok w g1
      | none => .bad) Rr := hp
    cases d with
    | tup xs =>
      refine P2.run pins s σ H Rr I (LE.to R er ?_)
      rw [hm]
      intro r' v H' x R' q
      obtain ⟨a, vs, rfl, h1, h2⟩ := q.tup_inv
      exact ⟨a, vs, rfl, h1, hp r' H' _ x R' (Wk.etup_ok h1 h2)⟩
    | ref i =>
      refine P1.run pins s σ H Rr I (LE.to R er ?_)
      rw [hm]
      intro r' v H' x R' q
      unfold enumOf at hp
      dsimp only at hp
      cases hl : lsOf g1 i with
      | none => rw [hl] at hp; exact hp.elim
      | some xs =>
        rw [hl] at hp
        obtain ⟨a, vs, ea, rfl, h3, h4⟩ := R'.lst hl q
        exact ⟨a, vs, rfl, .of h3, hp r' H' _ x R' (Wk.eseq_ok ea)⟩
    | _ => exact hp.elim
theorem pi_r1D {tg p : PySem.Expr} {p1 pos : Pos} {m : Env → G → Uk.R D} (O : XOk X ck c N sc E) (hg : glB sc (sS "range") = true) (hpl : plainP p = true) (ha : PE X p (LE X E m)) :
    PI X tg (.Call (.Name (sS "range") p1) [p] [] pos) (LI X E fun e g => (m e g).bind fun x g => match rng1 x with
    | some w => .ok w g
    | none => .bad) := by
  obtain ⟨gl, nd, nn⟩ := pe_callD.gl_of O hg
  have P1 := pi_range1 (tg := tg) (p := p1) (pos := pos) gl (O.gf.blt "range" (by simp [bnames])) (pa1 hpl ha) (star1 hpl)
  refine ⟨fun pins s σ H Rr I ⟨r, g, e, R, er, hp⟩ => ?_⟩
  cases hm : m e g with
  | bad => exact (PostI.bad hm hp).elim
  | exc x g1 => exact P1.run pins s σ H Rr I (LE.to R er (PostI.exc hm hp))
  | ok d g1 =>
    have hp : PostI X.K X.mg (E σ) r H ((m e g).bind _) Rr := hp
    rw [hm] at hp
    have hp : PostI X.K X.mg (E σ) r H (match rng1 d with
      | some w => .ok w g1
      | none => .bad) Rr := hp
    cases d with
    | int j =>
      unfold rng1 at hp
      dsimp only at hp
      split at hp
      · rename_i w hw
        split at hw
        · rename_i hj
          cases hw
          refine P1.run pins s σ H Rr I (LE.to R er ?_)
          rw [hm]
          intro r' v H' x R' q
          rw [q.int_inv]
          exact ⟨j, rfl, by omega, by omega, hp r' H' _ x R' Wk.rng1_ok⟩
        · cases hw
      · exact hp.elim
    | _ => exact hp.elim
end
end Uk
end
section
set_option Elab.async false
set_option linter.all false
set_option maxRecDepth 100000
set_option autoImplicit false
set_option maxHeartbeats 1000000
namespace Uk
open PySem PySem.Spec PyProof.Rows L2
/-! ## Targets -/
/-- slots are set, one after another -/
def sAll (σ : L2.St) : List Nat → List V → L2.St
  | i :: is, v :: vs => sAll (σ.set i (some v)) is vs
  | _, _ => σ
def TgOk (X : L2.Cx) (sc : Scope) : Prop := ∀ x, (sc.names.lookup x = some .local → Loc X.env.scope x ∧ (X.fn x = true ∨ X.env.scope.names.lookup x = some .local)) ∧
  (sc.names.lookup x = some .cell → Loc X.env.scope x ∧ (X.fn x = true ∨ X.env.scope.names.lookup x = some .local))
def GD (X : L2.Cx) (t : Tg) : TG := fun v σ H Q => ∃ (r : List Addr) (g : G) (d : D) (e e' : Env), Rel X.K X.mg r g H ∧ ER X.K r H e σ ∧ VR X.K r H d v ∧ bindT t d e = some e' ∧
  ∀ us, us.length = (tgIx t).length → ER X.K r H e' (sAll σ (tgIx t) us) → Q (sAll σ (tgIx t) us) H
def GDs (l : List Nat) : TGs := fun vs σ H Q => vs.length = l.length ∧ Q (sAll σ l vs) H
section
variable {X : L2.Cx} {N : List String} {sc : Scope} {r : List Addr} {H : Hp} {σ : L2.St} {e : Env}
theorem tgB_get {i : Nat} {x : Str} (hN : X.N = N.map sS) (T : TgOk X sc) (h : tgB N sc i x = true) : X.N[i]? = some x ∧ Loc X.env.scope x ∧ (X.fn x = true ∨ X.env.scope.names.lookup x = some .local) := by
  unfold tgB at h
  rw [Bool.and_eq_true] at h
  refine ⟨?_, ?_⟩
  · have h1 := h.1
    unfold ckN at h1
    split at h1
    · rename_i s hs
      rw [hN, List.getElem?_map, hs, ← of_decide_eq_true h1]
      rfl
    · cases h1
  · have h2 := h.2
    split at h2
    · rename_i q; exact (T x).1 q
    · rename_i q; exact (T x).2 q
    · cases h2
theorem assignEach_names : ∀ {l : List Nat} {ps : List PySem.Expr}, ckTs N sc l ps = true → ps.length = l.length ∧ (assignEach ps X.env).length = ps.length ∧ (assignEach ps X.env).findIdx? (·.1) = none
  | [], [], _ => ⟨rfl, rfl, rfl⟩
  | [], _ :: _, h => by cases h
  | _ :: _, [], h => by cases h
  | i :: is, p :: ps, h => by
    cases p with
    | Name x pos =>
      have h : (tgB N sc i x && ckTs N sc is ps) = true := h
      rw [Bool.and_eq_true] at h
      obtain ⟨h1, h2, h3⟩ := assignEach_names h.2
      have e : assignEach (.Name x pos :: ps) X.env = (false, assign (.Name x pos) X.env) :: assignEach ps X.env := rfl
      refine ⟨by simp [h1], by rw [e]; simp [h2], ?_⟩
      rw [e, List.findIdx?_cons, h3]
      rfl
    | _ => cases h
theorem pgs_names (hN : X.N = N.map sS) (nd : X.N.Nodup) (T : TgOk X sc) : ∀ {l : List Nat} {ps : List PySem.Expr}, ckTs N sc l ps = true → PGs X ps (GDs l)
  | [], [], _ => ⟨fun pins s σ H vs us Q I r ⟨h1, h2⟩ => pgs_nil.run pins s σ H vs us Q I r ⟨List.length_eq_zero_iff.mp h1, by
      rw [List.length_eq_zero_iff.mp h1] at h2
      exact h2⟩⟩
  | [], _ :: _, h => by cases h
  | _ :: _, [], h => by cases h
  | i :: is, p :: ps, h => by
    cases p with
    | Name x pos =>
      have h : (tgB N sc i x && ckTs N sc is ps) = true := h
      rw [Bool.and_eq_true] at h
      obtain ⟨h1, h2, h3⟩ := tgB_get hN T h.1
      refine ⟨fun pins s σ H vs us Q I r ⟨hl, hq⟩ => (pgs_cons (pg_name (pos := pos) nd h1 h2 h3) (pgs_names hN nd T h.2)).run pins s σ H vs us Q I r ?_⟩
      cases vs with
      | nil => cases hl
      | cons v q => exact ⟨v, q, rfl, by simpa using hl, hq⟩
    | _ => cases h
theorem ER.setAll : ∀ {l : List Nat} {ds : List D} {vs : List V} {e e' : Env} {σ : L2.St}, ER X.K r H e σ → VRs X.K r H ds vs → setAll e l ds = some e' → ER X.K r H e' (sAll σ l vs)
  | [], [], vs, e, e', σ, h, q, z => by
    cases z
    rw [VRs.nil_iff.mp q]
    exact h
  | [], _ :: _, _, _, _, _, _, _, z => by cases z
  | _ :: _, [], _, _, _, _, _, _, z => by cases z
  | i :: is, d :: ds, vs, e, e', σ, h, q, z => by
    obtain ⟨v, w, rfl, q1, q2⟩ := q.inv
    have z : Uk.setAll (e.set i (some d)) is ds = some e' := z
    show ER X.K r H e' (sAll (σ.set i (some v)) is w)
    exact ER.setAll (h.set i q1) q2 z
theorem setAll_len : ∀ {l : List Nat} {ds : List D} {e e' : Env}, setAll e l ds = some e' → ds.length = l.length
  | [], [], _, _, _ => rfl
  | [], _ :: _, _, _, z => by cases z
  | _ :: _, [], _, _, z => by cases z
  | i :: is, d :: ds, e, e', z => by
    have := setAll_len (l := is) (ds := ds) z
    simp [this]
theorem pg_tg (hc : X.calm = true) (hN : X.N = N.map sS) (nd : X.N.Nodup) (T : TgOk X sc) {t : Tg} {p : PySem.Expr} (h : ckT N sc t p = true) : PG X p (GD X t) := by
  cases t with
  | one i =>
    cases p with
    | Name x pos =>
      obtain ⟨h1, h2, h3⟩ := tgB_get (i := i) hN T h
      refine ⟨fun pins s σ H v u Q I r ⟨rr, g, d, e, e', R, er, q, z, hq⟩ => (pg_name (pos := pos) nd h1 h2 h3).run pins s σ H v u Q I r ?_⟩
      cases z
      exact hq [v] rfl (er.set i q)
    | _ => cases h
  | many l =>
    cases p with
    | Tuple ps k pos =>
      have h : ckTs N sc l ps = true := h
      obtain ⟨a1, a2, a3⟩ := assignEach_names (X := X) h
      refine ⟨fun pins s σ H v u Q I r ⟨rr, g, d, e, e', R, er, q, z, hq⟩ => (pg_tup (k := k) (pos := pos) (n := l.length) hc (pgs_names hN nd T h) (a2.trans a1) a3).run pins s σ H v u Q I r ?_⟩
      cases d with
      | tup ds =>
        obtain ⟨a, vs, rfl, q1, q2⟩ := q.tup_inv
        have z : setAll e l ds = some e' := z
        have hl : vs.length = l.length := by rw [q2.length]; exact setAll_len z
        exact ⟨a, vs, rfl, q1, hl, hl, hq vs hl (er.setAll q2 z)⟩
      | _ => cases z
    | _ => cases h
/-! ## Slots forgotten -/
theorem wipe_get : ∀ (vs : List Nat) (σ : L2.St) (j : Nat), (L2.wipe σ vs)[j]? = if j ∈ vs then (σ[j]?).map fun _ => none else σ[j]?
  | [], σ, j => by unfold L2.wipe; simp
  | v :: vs, σ, j => by
    unfold L2.wipe
    rw [List.getElem?_set]
    by_cases hj : v = j
    · subst hj
      rw [if_pos rfl, wipe_length]
      by_cases hl : v < σ.length
      · rw [if_pos hl, if_pos List.mem_cons_self, List.getElem?_eq_getElem hl]
        rfl
      · rw [if_neg hl, if_pos List.mem_cons_self, List.getElem?_eq_none (Nat.le_of_not_lt hl)]
        rfl
    · rw [if_neg hj, wipe_get vs σ j]
      by_cases hm : j ∈ vs
      · rw [if_pos hm, if_pos (List.mem_cons_of_mem _ hm)]
      · rw [if_neg hm, if_neg]
        intro h
        rcases List.mem_cons.mp h with z | z
        · exact hj z.symm
        · exact hm z
theorem wipe_idem (vs : List Nat) (σ : L2.St) : L2.wipe (L2.wipe σ vs) vs = L2.wipe σ vs := by
  refine List.ext_getElem? fun j => ?_
  rw [wipe_get, wipe_get]
  split
  · cases σ[j]? <;> rfl
  · rfl
theorem wipe_set {vs : List Nat} {i : Nat} (hi : i ∈ vs) (σ : L2.St) (v : Option V) : L2.wipe (σ.set i v) vs = L2.wipe σ vs := by
  refine List.ext_getElem? fun j => ?_
  rw [wipe_get, wipe_get, List.getElem?_set]
  split
  · by_cases hj : i = j
    · subst hj
      rw [if_pos rfl]
      by_cases hl : i < σ.length
      · rw [if_pos hl, List.getElem?_eq_getElem hl]
        rfl
      · rw [if_neg hl, List.getElem?_eq_none (Nat.le_of_not_lt hl)]
    · rw [if_neg hj]
  · rename_i hm
    rw [if_neg (show ¬ i = j from fun z => hm (z ▸ hi))]
theorem wipe_sAll {vs : List Nat} : ∀ {l : List Nat} {us : List V} {σ : L2.St}, (∀ i ∈ l, i ∈ vs) → L2.wipe (sAll σ l us) vs = L2.wipe σ vs
  | [], us, σ, _ => by unfold sAll; rfl
  | i :: is, [], σ, _ => by unfold sAll; rfl
  | i :: is, u :: us, σ, h => by
    unfold sAll
    rw [wipe_sAll fun j hj => h j (List.mem_cons_of_mem _ hj), wipe_set (h i List.mem_cons_self)]
end
/-! ## Comprehensions -/
def compTurn (mc me : Env → G → Uk.R D) (tg : Tg) (vs : List Nat) (δ : Env) (x : D) (g : G) : Uk.R (Option D) := match bindT tg x (Uk.wipe δ vs) with
  | none => .bad
  | some δ => (mc δ g).bind fun t g => match t with
    | .bl true => (me δ g).bind fun y g => .ok (some y) g
    | .bl false => .ok none g
    | _ => .bad
def compD (mi : Env → G → Uk.R (Nat × Wk)) (mc me : Env → G → Uk.R D) (tg : Tg) (vs : List Nat) (δ : Env) (g : G) : Uk.R D :=
  (mi δ g).bind fun w g => (compL w.2 w.1 g.length (compTurn mc me tg vs δ) w.1 0 (g ++ [.lst []])).bind fun _ g' => .ok (.ref g.length) g'
theorem compL_exc {w : Wk} {n p : Nat} {turn : D → G → Uk.R (Option D)} : ∀ (k i : Nat) (g : G) {x : Exn} {g' : G}, compL w n p turn k i g ≠ .exc x g'
  | 0, i, g, x, g', h => by
    unfold compL at h
    split at h <;> cases h
  | k + 1, i, g, x, g', h => by
    unfold compL at h
    split at h
    · split at h
      · exact compL_exc k _ _ h
      · split at h
        · split at h
          · exact compL_exc k _ _ h
          · cases h
        · cases h
      · cases h
    · cases h
section
variable {X : L2.Cx} {E : L2.St → XK} {r : List Addr} {H : Hp} {σ : L2.St} {e : Env} {g : G} {Q : VK}
abbrev E0' : L2.St → XK := fun _ _ _ _ => False
/-- the reading of a comprehension holds by the interpreter's turns -/
theorem lc_reads {K : PySem.W.Frag} {mg : Str → Option Value} (hK : X.K = K) (hm : X.mg = mg) {mi : Env → G → Uk.R (Nat × Wk)} {mc me : Env → G → Uk.R D} {tg : Tg} {vs : List Nat} (htg : ∀ i ∈ tgIx tg, i ∈ vs)
    {gg : TG} {tt : TT} {te : TE}
    (hgg : ∀ v σ H Q, GD X tg v σ H Q → gg v σ H Q)
    (htt : ∀ σ H Q, (∃ (r : List Addr) (g : G) (e : Env), Rel X.K X.mg r g H ∧ ER X.K r H e σ ∧ Post X.K X.mg (E0' σ) r H (mc e g) fun v H' => ∃ b, v = .bl b ∧ Q b H') → tt σ H Q)
    (hte : ∀ σ H Q, (∃ (r : List Addr) (g : G) (e : Env), Rel X.K X.mg r g H ∧ ER X.K r H e σ ∧ Post X.K X.mg (E0' σ) r H (me e g) Q) → te σ H Q)
    (R : Rel X.K X.mg r g H) (er : ER X.K r H e σ) (hp : Post X.K X.mg (E σ) r H (compD mi mc me tg vs e g) Q) : tLc (LI X E mi) gg tt te vs σ H Q := by
  refine ⟨r, g, e, R, er, ?_⟩
  unfold compD at hp
  cases hmi : mi e g with
  | bad => rw [hmi] at hp; exact hp.elim
  | exc x g1 => rw [hmi] at hp; exact hp
  | ok w g1 =>
    rw [hmi] at hp
    obtain ⟨n, w⟩ := w
    have hp : Post X.K X.mg (E σ) r H ((compL w n g1.length (compTurn mc me tg vs e) n 0 (g1 ++ [.lst []])).bind fun _ g' => .ok (.ref g1.length) g') Q := hp
    intro r1 H1 J x1 R1 io D hD
    cases hcl : compL w n g1.length (compTurn mc me tg vs e) n 0 (g1 ++ [.lst []]) with
    | bad => rw [hcl] at hp; exact hp.elim
    | exc y g2 => exact absurd hcl (compL_exc _ _ _)
    | ok u gf =>
      rw [hcl] at hp
      have hp : Post X.K X.mg (E σ) r H (.ok (.ref g1.length) gf) Q := hp
      have xD : Ext r1 H1 (r1 ++ [D]) (upd H1 D (.lst [])) := .newR hD
      have eD : (r1 ++ [D])[g1.length]? = some D := by rw [← R1.len]; exact get_last
      refine ⟨fun i m H2 => ∃ (r2 : List Addr) (g2 : G), Ext (r1 ++ [D]) (upd H1 D (.lst [])) r2 H2 ∧ Rel X.K X.mg r2 g2 H2 ∧ compL w n g1.length (compTurn mc me tg vs e) m i g2 = .ok u gf, ⟨n, r1 ++ [D], g1 ++ [.lst []], .refl _ _, R1.new (o := .lst []) hD ⟨[], upd_same, VRs.nil_iff.mpr rfl⟩, hcl⟩, ?_⟩
      rintro i m H2 ⟨r2, g2, x2, R2, hc2⟩
      have x12 : Ext r1 H1 r2 H2 := xD.trans x2
      have eD2 : r2[g1.length]? = some D := x2.get eD
      cases m with
      | zero =>
        unfold compL at hc2
        split at hc2
        · rename_i hit
          cases hc2
          exact .inl ⟨io.stop i r2 _ H2 x12 R2 hit, hp r2 _ H2 (x1.trans x12) R2 (.ref eD2)⟩
        · cases hc2
      | succ m =>
        unfold compL at hc2
        split at hc2
        · rename_i d hit
          obtain ⟨go, yl⟩ := io.go i r2 g2 H2 d x12 R2 hit
          refine .inr ⟨go, fun H' => ∃ (r' : List Addr) (g' : G), Ext (r1 ++ [D]) (upd H1 D (.lst [])) r' H' ∧ Rel X.K X.mg r' g' H' ∧ compL w n g1.length (compTurn mc me tg vs e) m (i + 1) g' = .ok u gf,
            fun H' ⟨r', g', a, b, c⟩ => ⟨m, Nat.lt_succ_self m, r', g', a, b, c⟩, fun v H3 hy => hgg _ _ _ _ ?_⟩
          obtain ⟨x3, R3, q3⟩ := yl v H3 hy
          have er3 : ER X.K r2 H3 (Uk.wipe e vs) (L2.wipe σ vs) := ((er.mono (x1.trans x12)).wipe vs).mono x3
          unfold compTurn at hc2
          cases hb : bindT tg d (Uk.wipe e vs) with
          | none => rw [hb] at hc2; cases hc2
          | some e3 =>
          rw [hb] at hc2
          refine ⟨r2, g2, d, _, e3, R3, er3, q3, hb, fun us hl er4 => ⟨by rw [wipe_sAll htg, wipe_idem], htt _ _ _ ⟨r2, g2, e3, R3, er4, ?_⟩⟩⟩
          cases hmc : mc e3 g2 with
          | bad => simp only [hmc, Uk.R.bind] at hc2; cases hc2
          | exc y g4 => simp only [hmc, Uk.R.bind] at hc2; cases hc2
          | ok t g4 =>
            simp only [hmc, Uk.R.bind] at hc2
            intro r5 v5 H5 x5 R5 q5
            cases t with
            | bl b =>
              refine ⟨b, q5.bl_inv, ?_⟩
              cases b with
              | false =>
                rw [if_neg (by simp)]
                exact ⟨r5, g4, x2.trans (x3.trans x5), R5, hc2⟩
              | true =>
                rw [if_pos rfl]
                refine hte _ _ _ ⟨r5, g4, e3, R5, er4.mono x5, ?_⟩
                cases hme : me e3 g4 with
                | bad => simp only [hme] at hc2; cases hc2
                | exc y g6 => simp only [hme] at hc2; cases hc2
                | ok yv g6 =>
                  simp only [hme] at hc2
                  intro r7 v7 H7 x7 R7 q7
                  have e7 : r7[g1.length]? = some D := (x3.trans (x5.trans x7)).get eD2
                  obtain ⟨o, ho, oo⟩ := R7.get e7
                  rw [ho] at hc2
                  cases o with
                  | lst acc =>
                    dsimp only at hc2
                    split at hc2
                    · rename_i hl2
                      obtain ⟨ws, h1, h2⟩ := oo
                      refine ⟨ws, h1, by rw [h2.length, ← line_eq]; exact hl2, r7, g6.set g1.length (.lst (acc ++ [yv])), (x2.trans (x3.trans (x5.trans x7))).trans (.put h1 trivial), ?_, hc2⟩
                      exact R7.put e7 h1 trivial (lst_put (xs := acc) h1 (h2.append (.cons q7 (VRs.nil_iff.mpr rfl))))
                    · cases hc2
                  | _ => cases hc2
            | _ => cases hc2
        · cases hc2
end
end Uk
end
section
set_option Elab.async false
set_option linter.all false
set_option maxRecDepth 100000
set_option autoImplicit false
set_option maxHeartbeats 1000000
namespace Uk
open PySem PySem.Spec PyProof.Rows L2
section
variable {X : L2.Cx} {ck : Arguments → List Stmt → Scope → FDef → Bool} {c : Cx} {N : List String} {sc : Scope} {E : L2.St → XK} {r : List Addr} {H : Hp} {g : G} {Q : VK} {σ : L2.St} {e : Env}
/-! ## Readings, joined -/
theorem LE.bind {m : Env → G → Uk.R D} (R : Rel X.K X.mg r g H) (er : ER X.K r H e σ) {k : D → G → Uk.R D} (hp : Post X.K X.mg (E σ) r H ((m e g).bind k) Q) {Q' : VK}
    (next : ∀ (r1 : List Addr) (g1 : G) (H1 : Hp) (d : D) (v : V), Ext r H r1 H1 → Rel X.K X.mg r1 g1 H1 → ER X.K r1 H1 e σ → VR X.K r1 H1 d v → Post X.K X.mg (E σ) r1 H1 (k d g1) Q → Q' v H1) : LE X E m σ H Q' := by
  refine ⟨r, g, e, R, er, ?_⟩
  cases hm : m e g with
  | ok d g1 =>
    rw [hm] at hp
    have hp : Post X.K X.mg (E σ) r H (k d g1) Q := hp
    exact fun r' v H' x R' q => next r' g1 H' d v x R' (er.mono x) q (hp.ext x)
  | exc y g1 => rw [hm] at hp; exact hp
  | bad => rw [hm] at hp; exact hp.elim
theorem PostA.ext {m : Uk.R (List D)} {Q : List V → Hp → Prop} {r1 : List Addr} {H1 : Hp} (h : PostA X.K X.mg (E σ) r H m Q) (x : Ext r H r1 H1) : PostA X.K X.mg (E σ) r1 H1 m Q := by
  cases m with
  | ok d g => exact fun r' v H' y R q => h r' v H' (x.trans y) R q
  | exc e g => exact fun r' H' c d y R q => h r' H' c d (x.trans y) R q
  | bad => exact h
theorem LE.bindA {m : Env → G → Uk.R D} (R : Rel X.K X.mg r g H) (er : ER X.K r H e σ) {k : D → G → Uk.R (List D)} {Q : List V → Hp → Prop} (hp : PostA X.K X.mg (E σ) r H ((m e g).bind k) Q) {Q' : VK}
    (next : ∀ (r1 : List Addr) (g1 : G) (H1 : Hp) (d : D) (v : V), Ext r H r1 H1 → Rel X.K X.mg r1 g1 H1 → ER X.K r1 H1 e σ → VR X.K r1 H1 d v → PostA X.K X.mg (E σ) r1 H1 (k d g1) Q → Q' v H1) : LE X E m σ H Q' := by
  refine ⟨r, g, e, R, er, ?_⟩
  cases hm : m e g with
  | ok d g1 =>
    rw [hm] at hp
    have hp : PostA X.K X.mg (E σ) r H (k d g1) Q := hp
    exact fun r' v H' x R' q => next r' g1 H' d v x R' (er.mono x) q (hp.ext x)
  | exc y g1 => rw [hm] at hp; exact hp
  | bad => rw [hm] at hp; exact hp.elim
theorem LA.bind {m : Env → G → Uk.R (List D)} (R : Rel X.K X.mg r g H) (er : ER X.K r H e σ) {k : List D → G → Uk.R D} (hp : Post X.K X.mg (E σ) r H ((m e g).bind k) Q) {Q' : List V → Hp → Prop}
    (next : ∀ (r1 : List Addr) (g1 : G) (H1 : Hp) (ds : List D) (vs : List V), Ext r H r1 H1 → Rel X.K X.mg r1 g1 H1 → ER X.K r1 H1 e σ → VRs X.K r1 H1 ds vs → Post X.K X.mg (E σ) r1 H1 (k ds g1) Q → Q' vs H1) : LA X E m σ H Q' := by
  refine ⟨r, g, e, R, er, ?_⟩
  cases hm : m e g with
  | ok d g1 =>
    rw [hm] at hp
    have hp : Post X.K X.mg (E σ) r H (k d g1) Q := hp
    exact fun r' v H' x R' q => next r' g1 H' d v x R' (er.mono x) q (hp.ext x)
  | exc y g1 => rw [hm] at hp; exact hp
  | bad => rw [hm] at hp; exact hp.elim
theorem LA.bindA {m : Env → G → Uk.R (List D)} (R : Rel X.K X.mg r g H) (er : ER X.K r H e σ) {k : List D → G → Uk.R (List D)} {Q : List V → Hp → Prop} (hp : PostA X.K X.mg (E σ) r H ((m e g).bind k) Q) {Q' : List V → Hp → Prop}
    (next : ∀ (r1 : List Addr) (g1 : G) (H1 : Hp) (ds : List D) (vs : List V), Ext r H r1 H1 → Rel X.K X.mg r1 g1 H1 → ER X.K r1 H1 e σ → VRs X.K r1 H1 ds vs → PostA X.K X.mg (E σ) r1 H1 (k ds g1) Q → Q' vs H1) : LA X E m σ H Q' := by
  refine ⟨r, g, e, R, er, ?_⟩
  cases hm : m e g with
  | ok d g1 =>
    rw [hm] at hp
    have hp : PostA X.K X.mg (E σ) r H (k d g1) Q := hp
    exact fun r' v H' x R' q => next r' g1 H' d v x R' (er.mono x) q (hp.ext x)
  | exc y g1 => rw [hm] at hp; exact hp
  | bad => rw [hm] at hp; exact hp.elim
/-- a test's value -/
theorem LT.bind {m : Env → G → Uk.R D} (R : Rel X.K X.mg r g H) (er : ER X.K r H e σ) {k : D → G → Uk.R D} (hp : Post X.K X.mg (E σ) r H ((m e g).bind k) Q) {Q' : Bool → Hp → Prop} (hb : ∀ d g1, m e g = .ok d g1 → k d g1 ≠ .bad → ∃ b, d = .bl b)
    (next : ∀ (r1 : List Addr) (g1 : G) (H1 : Hp) (b : Bool), Ext r H r1 H1 → Rel X.K X.mg r1 g1 H1 → ER X.K r1 H1 e σ → Post X.K X.mg (E σ) r1 H1 (k (.bl b) g1) Q → Q' b H1) : LT X E m σ H Q' := by
  refine ⟨r, g, e, R, er, ?_⟩
  cases hm : m e g with
  | ok d g1 =>
    rw [hm] at hp
    have hp : Post X.K X.mg (E σ) r H (k d g1) Q := hp
    have nb : k d g1 ≠ .bad := fun z => by rw [z] at hp; exact hp
    obtain ⟨b, rfl⟩ := hb d g1 hm nb
    exact fun r' v H' x R' q => ⟨b, q.bl_inv, next r' g1 H' b x R' (er.mono x) (hp.ext x)⟩
  | exc y g1 => rw [hm] at hp; exact hp
  | bad => rw [hm] at hp; exact hp.elim
/-! ## Expressions -/
def isBo (p : PySem.Expr) : Bool := match p with
  | .BoolOp _ _ _ => true
  | _ => false
/-- a test of the plain form -/
def plT (p : PySem.Expr) : Bool := match p with
  | .UnaryOp .Not _ _ => false
  | .BoolOp _ _ _ => false
  | .IfExp _ _ _ _ => false
  | .Compare _ _ _ _ => false
  | _ => true
structure OkE (X : L2.Cx) (E : L2.St → XK) (p : PySem.Expr) (m : Env → G → Uk.R D) : Prop where
  pe : PE X p (LE X E m)
  pt : PT X p (LT X E m)
  pw : isBo p = true → PW X p (LT X E m)
theorem OkE.of {p : PySem.Expr} {m : Env → G → Uk.R D} (hp : plT p = true) (h : PE X p (LE X E m)) : OkE X E p m := by
  refine ⟨h, ⟨fun pins s σ H Q I q => (pt_val h ?_).run pins s σ H Q I q⟩, fun z => ?_⟩
  · intro whole
    cases p <;> first
      | rfl
      | (rename_i o _ _; cases o <;> first | rfl | exact absurd hp Bool.false_ne_true)
      | exact absurd hp Bool.false_ne_true
  · cases p <;> first | exact absurd z Bool.false_ne_true | exact absurd hp Bool.false_ne_true
theorem nomarks {p : PySem.Expr} {op : CmpOp} (h : plainP p = true) : behindInMarks op p = false := by
  cases p <;> first | rfl | exact absurd h Bool.false_ne_true
theorem plainIx {p : PySem.Expr} (h : plainP p = true) : PlainIx p := by
  intro o i
  cases p <;> first | rfl | exact absurd h Bool.false_ne_true
/-- a name seen -/
theorem seen (O : XOk X ck c N sc E) {i : Nat} {x : Str} (h : (ckN N i x && visB sc x && nmB x) = true) : X.N[i]? = some x ∧ Vis X.env.scope x ∧ (x == ("__debug__" : Str)) = false ∧ (x == ("__classdict__" : Str)) = false := by
  rw [Bool.and_eq_true, Bool.and_eq_true] at h
  obtain ⟨⟨h1, h2⟩, h3⟩ := h
  unfold nmB at h3
  rw [Bool.and_eq_true, Bool.and_eq_true, Bool.not_eq_true', Bool.not_eq_true'] at h3
  refine ⟨?_, ?_, h3.1.1, h3.1.2⟩
  · unfold ckN at h1
    split at h1
    · rename_i s hs
      rw [O.nm, List.getElem?_map, hs, ← of_decide_eq_true h1]
      rfl
    · cases h1
  · unfold visB at h2
    rw [O.sc]
    split at h2
    · rename_i q; exact .inl q
    · rename_i q; exact .inr (.inl q)
    · rename_i q; exact .inr (.inr q)
    · cases h2
theorem ok_cst {d : D} {k : Const} {j : Nat} {pos : Pos} (h : ckC d k = true) : PE X (.Constant k j pos) (LE X E (ev c (.cst d))) := by
  refine ⟨fun pins s σ H Q I ⟨r, g, e, R, er, hp⟩ => ?_⟩
  have hp : Post X.K X.mg (E σ) r H (.ok d g) Q := hp
  cases d with
  | non =>
    cases k with
    | none => exact pe_non.run pins s σ H Q I (hp.here R .non)
    | _ => cases h
  | bl a =>
    cases k with
    | bool b =>
      have h : (a == b) = true := h
      rw [eq_of_beq h] at hp
      exact pe_bl.run pins s σ H Q I (hp.here R .bl)
    | _ => cases h
  | int a =>
    cases k with
    | int b =>
      have h : a = b := of_decide_eq_true h
      rw [h] at hp
      exact pe_int.run pins s σ H Q I (hp.here R .int)
    | _ => cases h
  | str a =>
    cases k with
    | str b =>
      have h : sS a = b := of_decide_eq_true h
      subst h
      exact pe_str.run pins s σ H Q I (hp.here R .str)
    | _ => cases h
  | _ => cases k <;> cases h
theorem ok_loc (O : XOk X ck c N sc E) {i : Nat} {x : Str} {pos : Pos} (h : (ckN N i x && visB sc x && nmB x) = true) : PE X (.Name x pos) (LE X E (ev c (.loc i))) := by
  obtain ⟨h1, h2, h3, h4⟩ := seen O h
  refine ⟨fun pins s σ H Q I ⟨r, g, e, R, er, hp⟩ => ?_⟩
  have hp : Post X.K X.mg (E σ) r H (match e[i]? with
    | some (some d) => .ok d g
    | _ => .bad) Q := hp
  split at hp
  · rename_i d hd
    obtain ⟨v, a, b⟩ := er.2 i d hd
    exact (pe_var h1 h2 h3 h4).run pins s σ H Q I ⟨v, a, hp.here R b⟩
  · exact hp.elim
theorem ok_glo (O : XOk X ck c N sc E) {x : String} {pos : Pos} (hg : glB sc (sS x) = true) (hc : (c.P.con x).isSome = true) : PE X (.Name (sS x) pos) (LE X E (ev c (.glo x))) := by
  obtain ⟨gl, nd, nn⟩ := pe_callD.gl_of O hg
  obtain ⟨d, hd⟩ := Option.isSome_iff_exists.mp hc
  obtain ⟨v, u, hm, ru, hv⟩ := O.gf.con x d hd
  refine ⟨fun pins s σ H Q I ⟨r, g, e, R, er, hp⟩ => ?_⟩
  have hp : Post X.K X.mg (E σ) r H (match c.P.con x with
    | some d => .ok d g
    | none => .bad) Q := hp
  rw [hd] at hp
  exact (pe_glob gl hm ru nd).run pins s σ H Q I (Post.here hp R (hv r H))
theorem ok_tup {ps : List PySem.Expr} {k : Nat} {pos : Pos} {m : Env → G → Uk.R (List D)} (h : PA X ps (LA X E m)) : PE X (.Tuple ps k pos) (LE X E fun e g => (m e g).bind newT) := by
  refine ⟨fun pins s σ H Q I ⟨r, g, e, R, er, hp⟩ => (pe_tup h).run pins s σ H Q I (LA.bind R er hp fun r1 g1 H1 ds vs x R1 er1 q hp => ?_)⟩
  unfold newT at hp
  split at hp
  · rename_i hl
    exact ⟨by rw [q.length, ← line_eq]; exact hl, fun p hpn => hp.newTup R1 q hpn⟩
  · exact hp.elim
theorem ok_lst {ps : List PySem.Expr} {pos : Pos} {m : Env → G → Uk.R (List D)} (h : PA X ps (LA X E m)) : PE X (.List ps pos) (LE X E fun e g => (m e g).bind newL) := by
  refine ⟨fun pins s σ H Q I ⟨r, g, e, R, er, hp⟩ => (pe_lst h).run pins s σ H Q I (LA.bind R er hp fun r1 g1 H1 ds vs x R1 er1 q hp => ?_)⟩
  unfold newL at hp
  split at hp
  · rename_i hl
    exact ⟨by rw [q.length, ← line_eq]; exact hl, fun p hpn => hp.newLst R1 q hpn⟩
  · exact hp.elim
theorem ok_bin {o : Bop} {a b : PySem.Expr} {pos : Pos} {ma mb : Env → G → Uk.R D} (ha : PE X a (LE X E ma)) (hb : PE X b (LE X E mb)) : PE X (.BinOp a (bopOp o) b pos) (LE X E fun e g => (ma e g).bind fun x g => (mb e g).bind fun y g => binop o x y g) :=
  ⟨fun pins s σ H Q I ⟨r, g, e, R, er, hp⟩ => (pe_op (opr_bin (E := E σ)) ha hb).run pins s σ H Q I (LE.bind R er hp fun r1 g1 H1 d1 v1 x1 R1 er1 q1 hp => LE.bind R1 er1 hp fun r2 g2 H2 d2 v2 x2 R2 er2 q2 hp => ⟨trivial, r2, g2, d1, d2, R2, VR.mono x2 _ _ q1, q2, hp⟩)⟩
theorem ok_neg {a : PySem.Expr} {pos : Pos} {ma : Env → G → Uk.R D} (ha : PE X a (LE X E ma)) : PE X (.UnaryOp .USub a pos) (LE X E fun e g => (ma e g).bind fun x g => match x with
    | .int i => .ok (.int (-i)) g
    | _ => .bad) := by
  refine ⟨fun pins s σ H Q I ⟨r, g, e, R, er, hp⟩ => (pe_un un_neg ha).run pins s σ H Q I (LE.bind R er hp fun r1 g1 H1 d1 v1 x1 R1 er1 q1 hp => ?_)⟩
  cases d1 with
  | int i => exact ⟨i, q1.int_inv, Post.here hp R1 .int⟩
  | _ => exact hp.elim
theorem ok_ix (hu : X.A.units + 200 < cLine) {a b : PySem.Expr} {pos : Pos} {ma mb : Env → G → Uk.R D} (hpl : plainP b = true) (ha : PE X a (LE X E ma)) (hb : PE X b (LE X E mb)) : PE X (.Subscript a b pos) (LE X E fun e g => (ma e g).bind fun x g => (mb e g).bind fun y g => getIx x y g) :=
  ⟨fun pins s σ H Q I ⟨r, g, e, R, er, hp⟩ => (pe_ix (ixr_ok (E := E σ) hu) ha hb (plainIx hpl)).run pins s σ H Q I (LE.bind R er hp fun r1 g1 H1 d1 v1 x1 R1 er1 q1 hp => LE.bind R1 er1 hp fun r2 g2 H2 d2 v2 x2 R2 er2 q2 hp => ⟨trivial, r2, g2, d1, d2, R2, VR.mono x2 _ _ q1, q2, hp⟩)⟩
/-- an end of a slice -/
def pO (m : Env → G → Uk.R D) (isn : Bool) (k : Option Int → G → Uk.R D) (e : Env) (g : G) : Uk.R D := match isn with
  | true => k none g
  | false => (m e g).bind fun h g => orElse h.int? fun h => k (some h) g
theorem int?_some {d : D} {i : Int} (h : d.int? = some i) : d = .int i := by
  cases d with
  | int j => cases h; rfl
  | _ => cases h
/-- what an end's reading is -/
theorem po_seq {m : Env → G → Uk.R D} {isn : Bool} {tt : L2.TO} (hpo : (isn = true ∧ tt = tNoPart) ∨ (isn = false ∧ tt = tPart (LE X E m))) {k : Option Int → G → Uk.R D} (R : Rel X.K X.mg r g H) (er : ER X.K r H e σ) (hp : Post X.K X.mg (E σ) r H (pO m isn k e g) Q)
    {Q' : Option Int → Hp → Prop} (next : ∀ (r1 : List Addr) (g1 : G) (H1 : Hp) (o : Option Int), Ext r H r1 H1 → Rel X.K X.mg r1 g1 H1 → ER X.K r1 H1 e σ → Post X.K X.mg (E σ) r1 H1 (k o g1) Q → Q' o H1) : tt σ H Q' := by
  rcases hpo with ⟨rfl, rfl⟩ | ⟨rfl, rfl⟩
  · exact next r g H none (.refl _ _) R er hp
  · have hp : Post X.K X.mg (E σ) r H ((m e g).bind fun h g => orElse h.int? fun h => k (some h) g) Q := hp
    refine LE.bind R er hp fun r1 g1 H1 d v x R1 er1 q hp => ?_
    cases hd : d.int? with
    | none => rw [hd] at hp; exact hp.elim
    | some i =>
      rw [hd] at hp
      have ed := int?_some hd
      subst ed
      exact ⟨i, q.int_inv, next r1 g1 H1 (some i) x R1 er1 hp⟩
theorem ok_cut {a : PySem.Expr} {pl ph : Option PySem.Expr} {p1 pos : Pos} {ma ml mh : Env → G → Uk.R D} {bl bh : Bool} (ha : PE X a (LE X E ma)) (hl : (pl = none ∧ bl = true) ∨ (∃ q, pl = some q ∧ bl = false ∧ PE X q (LE X E ml)))
    (hh : (ph = none ∧ bh = true) ∨ (∃ q, ph = some q ∧ bh = false ∧ PE X q (LE X E mh))) :
    PE X (.Subscript a (.Slice pl ph none p1) pos) (LE X E fun e g => (ma e g).bind fun x g => pO ml bl (fun lo g => pO mh bh (fun hi g => getCut x lo hi g) e g) e g) := by
  have P1 : ∃ tl, PO X pl tl ∧ ((bl = true ∧ tl = tNoPart) ∨ (bl = false ∧ tl = tPart (LE X E ml))) := by
    rcases hl with ⟨rfl, rfl⟩ | ⟨q, rfl, rfl, h⟩
    · exact ⟨_, po_none, .inl ⟨rfl, rfl⟩⟩
    · exact ⟨_, po_some h, .inr ⟨rfl, rfl⟩⟩
  have P2 : ∃ tl, PO X ph tl ∧ ((bh = true ∧ tl = tNoPart) ∨ (bh = false ∧ tl = tPart (LE X E mh))) := by
    rcases hh with ⟨rfl, rfl⟩ | ⟨q, rfl, rfl, h⟩
    · exact ⟨_, po_none, .inl ⟨rfl, rfl⟩⟩
    · exact ⟨_, po_some h, .inr ⟨rfl, rfl⟩⟩
  obtain ⟨tl, p1', h1⟩ := P1
  obtain ⟨th, p2', h2⟩ := P2
  refine ⟨fun pins s σ H Q I ⟨r, g, e, R, er, hp⟩ => (pe_slice (sl_ok (E := E σ)) ha p1' p2').run pins s σ H Q I (LE.bind R er hp fun r1 g1 H1 d1 v1 x1 R1 er1 q1 hp => ?_)⟩
  refine po_seq h1 R1 er1 hp fun r2 g2 H2 lo x2 R2 er2 hp => po_seq h2 R2 er2 hp fun r3 g3 H3 hi x3 R3 er3 hp => ⟨r3, g3, d1, R3, VR.mono (x2.trans x3) _ _ q1, hp⟩
end
end Uk
end
section
set_option Elab.async false
set_option linter.all false
set_option maxRecDepth 100000
set_option autoImplicit false
set_option maxHeartbeats 1000000
namespace Uk
open PySem PySem.Spec PyProof.Rows L2
section
variable {X : L2.Cx} {ck : Arguments → List Stmt → Scope → FDef → Bool} {c : Cx} {N : List String} {sc : Scope} {E : L2.St → XK} {r : List Addr} {H : Hp} {g : G} {Q : VK} {σ : L2.St} {e : Env}
/-! ## Comparisons -/
theorem isn_non {b : Uk.E} (h : isnC b = true) : b = .cst .non := by
  unfold isnC at h
  split at h
  · rfl
  · cases h
/-- the right side's value where None is written -/
theorem cst_val {b : Uk.E} {g g1 : G} {d : D} {e : Env} (h : isnC b = true) (hm : ev c b e g = .ok d g1) : d = .non := by
  rw [isn_non h] at hm
  have hm : Uk.R.ok D.non g = .ok d g1 := hm
  cases hm
  rfl
/-- two parts of a comparison -/
theorem two_seq {ma : Env → G → Uk.R D} {b : Uk.E} (R : Rel X.K X.mg r g H) (er : ER X.K r H e σ) {k : D → D → G → Uk.R D} (hp : Post X.K X.mg (E σ) r H ((ma e g).bind fun x g => (ev c b e g).bind fun y g => k x y g) Q) {Q' : V → V → Hp → Prop}
    (next : ∀ (r2 : List Addr) (g2 : G) (H2 : Hp) (x y : D) (v w : V), Ext r H r2 H2 → Rel X.K X.mg r2 g2 H2 → ER X.K r2 H2 e σ → VR X.K r2 H2 x v → VR X.K r2 H2 y w → (isnC b = true → w = .non) → Post X.K X.mg (E σ) r2 H2 (k x y g2) Q → Q' v w H2) :
    LE X E ma σ H fun v H1 => LE X E (ev c b) σ H1 fun w H2 => Q' v w H2 := by
  refine LE.bind R er hp fun r1 g1 H1 d1 v1 x1 R1 er1 q1 hp => ?_
  refine ⟨r1, g1, e, R1, er1, ?_⟩
  cases hm : ev c b e g1 with
  | bad => rw [hm] at hp; exact hp.elim
  | exc y g2 => rw [hm] at hp; exact hp
  | ok d2 g2 =>
    rw [hm] at hp
    have hp : Post X.K X.mg (E σ) r1 H1 (k d1 d2 g2) Q := hp
    intro r2 w H2 x2 R2 q2
    refine next r2 g2 H2 d1 d2 v1 w (x1.trans x2) R2 (er1.mono x2) (VR.mono x2 _ _ q1) q2 (fun hb => ?_) (hp.ext x2)
    have := cst_val hb hm
    subst this
    exact q2.non_inv
theorem copB_inv {o : Cop} {q : CmpOp} {b : Uk.E} (h : copB o q b = true) : copOp o = q ∧ isnOk o b = true := by
  unfold copB at h
  rw [Bool.and_eq_true] at h
  exact ⟨of_decide_eq_true h.1, h.2⟩
theorem ok_cmp (O : XOk X ck c N sc E) (EI : ∀ E, EqIns X c E) {o : Cop} {pa pb : PySem.Expr} {pos : Pos} {ma : Env → G → Uk.R D} {b : Uk.E} (hpl : plainP pb = true) (hn : isnOk o b = true) (ha : PE X pa (LE X E ma)) (hb : PE X pb (LE X E (ev c b))) :
    OkE X E (.Compare pa [copOp o] [pb] pos) (fun e g => (ma e g).bind fun x g => (ev c b e g).bind fun y g => cmpop c o x y g) := by
  refine ⟨⟨fun pins s σ H Q I ⟨r, g, e, R, er, hp⟩ => ?_⟩, ⟨fun pins s σ H Q I ⟨r, g, e, R, er, hp⟩ => ?_⟩, fun z => absurd z Bool.false_ne_true⟩
  · exact (pe_cmpR (opr_cmp O (EI (E σ)) hn) ha hb (nomarks hpl)).run pins s σ H Q I (two_seq R er hp fun r2 g2 H2 x y v w x2 R2 er2 q1 q2 hw hp => ⟨hw, r2, g2, x, y, R2, q1, q2, hp⟩)
  · exact (pt_cmpR (opr_cmp O (EI (E σ)) hn) ha hb (nomarks hpl)).run pins s σ H Q I (two_seq R er hp fun r2 g2 H2 x y v w x2 R2 er2 q1 q2 hw hp => ⟨hw, r2, g2, x, y, R2, q1, q2, hp⟩)
/-- a comparison gives a bool -/
theorem cmp_bool {o : Cop} {x y z : D} {g g1 : G} (h : cmpop c o x y g = .ok z g1) : ∃ b, z = .bl b := by
  have two : ∀ {m : Uk.R Bool} {f : Bool → Bool}, (m.bind fun b g => Uk.R.ok (D.bl (f b)) g) = .ok z g1 → ∃ b, z = .bl b := fun {m f} h => by
    cases m with
    | ok b g2 => cases h; exact ⟨_, rfl⟩
    | exc _ _ => cases h
    | bad => cases h
  have ord : ∀ {f : Int → Int → Bool}, ordI f x y g = .ok z g1 → ∃ b, z = .bl b := fun {f} h => by
    unfold ordI at h
    split at h
    · cases h; exact ⟨_, rfl⟩
    · cases h
  have inn : ∀ {m : Option Bool} {f : Bool → Bool}, (orElse m fun b => Uk.R.ok (D.bl (f b)) g) = .ok z g1 → ∃ b, z = .bl b := fun {m f} h => by
    cases m with
    | some b => cases h; exact ⟨_, rfl⟩
    | none => cases h
  cases o with
  | eq => exact two (f := fun b => b) h
  | ne =>
    have h : (if neOk g x y then (eqOp c x y g).bind fun b g => Uk.R.ok (D.bl (!b)) g else .bad) = .ok z g1 := h
    split at h
    · exact two h
    · cases h
  | lt => exact ord h
  | le => exact ord h
  | gt => exact ord h
  | ge => exact ord h
  | isn => cases h; exact ⟨_, rfl⟩
  | notn => cases h; exact ⟨_, rfl⟩
  | in_ => exact inn (f := fun b => b) h
  | nin => exact inn h
theorem ok_chn (O : XOk X ck c N sc E) (EI : ∀ E, EqIns X c E) {o o2 : Cop} {pa pb pd : PySem.Expr} {pos : Pos} {ma : Env → G → Uk.R D} {b d : Uk.E} (hpl : plainP pd = true) (hn : isnOk o b = true) (hn2 : isnOk o2 d = true) (ha : PE X pa (LE X E ma)) (hb : PE X pb (LE X E (ev c b))) (hd : PE X pd (LE X E (ev c d))) :
    OkE X E (.Compare pa [copOp o, copOp o2] [pb, pd] pos) (fun e g => (ma e g).bind fun x g => (ev c b e g).bind fun y g => (cmpop c o x y g).bind fun z g => match z with
      | .bl true => (ev c d e g).bind fun w g => cmpop c o2 y w g
      | .bl false => .ok (.bl false) g
      | _ => .bad) := by
  have hm : lastMarks [copOp o, copOp o2] [pb, pd] = false := nomarks hpl
  have key : ∀ {σ : L2.St} {H : Hp} {Q : VK}, (LE X E fun e g => (ma e g).bind fun x g => (ev c b e g).bind fun y g => (cmpop c o x y g).bind fun z g => match z with
      | .bl true => (ev c d e g).bind fun w g => cmpop c o2 y w g
      | .bl false => .ok (.bl false) g
      | _ => .bad) σ H Q → tChain (r2Of X (E σ) (cmpop c o) fun w => isnC b = true → w = .non) (r2Of X (E σ) (cmpop c o2) fun w => isnC d = true → w = .non) (LE X E ma) (LE X E (ev c b)) (LE X E (ev c d)) σ H Q := by
    intro σ H Q ⟨r, g, e, R, er, hp⟩
    refine two_seq R er hp fun r2 g2 H2 x y v w x2 R2 er2 q1 q2 hw hp => ⟨hw, r2, g2, x, y, R2, q1, q2, ?_⟩
    cases hc : cmpop c o x y g2 with
    | bad => rw [hc] at hp; exact hp.elim
    | exc z g3 => rw [hc] at hp; exact hp
    | ok z g3 =>
      rw [hc] at hp
      obtain ⟨k, rfl⟩ := cmp_bool hc
      intro r3 v3 H3 x3 R3 q3
      refine ⟨k, q3.bl_inv, ?_⟩
      cases k with
      | false =>
        rw [if_neg (by simp)]
        have hp : Post X.K X.mg (E σ) r2 H2 (.ok (.bl false) g3) Q := hp
        exact hp r3 _ H3 x3 R3 .bl
      | true =>
        rw [if_pos rfl]
        have hp : Post X.K X.mg (E σ) r2 H2 ((ev c d e g3).bind fun w g => cmpop c o2 y w g) Q := hp
        refine ⟨r3, g3, e, R3, er2.mono x3, ?_⟩
        cases hm : ev c d e g3 with
        | bad => rw [hm] at hp; exact hp.elim
        | exc y g4 =>
          rw [hm] at hp
          exact fun r' H' cls dx x' R' q => hp r' H' cls dx (x3.trans x') R' q
        | ok d2 g4 =>
          rw [hm] at hp
          have hp : Post X.K X.mg (E σ) r2 H2 (cmpop c o2 y d2 g4) Q := hp
          intro r4 w4 H4 x4 R4 q4
          refine ⟨fun hb => ?_, r4, g4, y, d2, R4, VR.mono (x3.trans x4) _ _ q2, q4, hp.ext (x3.trans x4)⟩
          have := cst_val hb hm
          subst this
          exact q4.non_inv
  refine ⟨⟨fun pins s σ H Q I h => (pe_chain (opr_cmp O (EI (E σ)) hn) (opr_cmp O (EI (E σ)) hn2) ha hb hd hm).run pins s σ H Q I (key h)⟩, ⟨fun pins s σ H Q I h => (pt_chain (opr_cmp O (EI (E σ)) hn) (opr_cmp O (EI (E σ)) hn2) ha hb hd hm).run pins s σ H Q I (key h)⟩, fun z => absurd z Bool.false_ne_true⟩
/-! ## and, or, not, if -/
def andD (ma mb : Env → G → Uk.R D) : Env → G → Uk.R D := fun e g => (ma e g).bind fun x g => match x with
    | .bl true => mb e g
    | .bl false => .ok (.bl false) g
    | _ => .bad
def orD (ma mb : Env → G → Uk.R D) : Env → G → Uk.R D := fun e g => (ma e g).bind fun x g => match x with
    | .bl true => .ok (.bl true) g
    | .bl false => mb e g
    | _ => .bad
def iteD (mt ma mb : Env → G → Uk.R D) : Env → G → Uk.R D := fun e g => (mt e g).bind fun x g => match x with
    | .bl true => ma e g
    | .bl false => mb e g
    | _ => .bad
theorem and_reads {ma mb : Env → G → Uk.R D} {Q : Bool → Hp → Prop} (h : LT X E (andD ma mb) σ H Q) : LT X E ma σ H fun c H1 => if c = true then LT X E mb σ H1 Q else Q false H1 := by
  obtain ⟨r, g, e, R, er, hp⟩ := h
  refine LT.bind R er hp (fun d g1 _ hk => ?_) fun r1 g1 H1 b x R1 er1 hp => ?_
  · cases d with
    | bl b => exact ⟨b, rfl⟩
    | _ => exact absurd rfl hk
  · cases b with
    | true => exact ⟨r1, g1, e, R1, er1, hp⟩
    | false =>
      obtain ⟨b, eb, q⟩ := Post.here (d := .bl false) hp R1 .bl
      cases eb
      exact q
theorem or_reads {ma mb : Env → G → Uk.R D} {Q : Bool → Hp → Prop} (h : LT X E (orD ma mb) σ H Q) : LT X E ma σ H fun c H1 => if c = true then Q true H1 else LT X E mb σ H1 Q := by
  obtain ⟨r, g, e, R, er, hp⟩ := h
  refine LT.bind R er hp (fun d g1 _ hk => ?_) fun r1 g1 H1 b x R1 er1 hp => ?_
  · cases d with
    | bl b => exact ⟨b, rfl⟩
    | _ => exact absurd rfl hk
  · cases b with
    | false => exact ⟨r1, g1, e, R1, er1, hp⟩
    | true =>
      obtain ⟨b, eb, q⟩ := Post.here (d := .bl true) hp R1 .bl
      cases eb
      exact q
theorem andV_reads {ma mb : Env → G → Uk.R D} (h : LE X E (andD ma mb) σ H Q) : tAndV (LE X E ma) (LE X E mb) σ H Q := by
  obtain ⟨r, g, e, R, er, hp⟩ := h
  refine LE.bind R er hp fun r1 g1 H1 d v x R1 er1 q hp => ?_
  cases d with
  | bl b =>
    refine ⟨b, q.bl_inv, ?_⟩
    cases b with
    | true => exact ⟨r1, g1, e, R1, er1, hp⟩
    | false => exact Post.here (d := .bl false) hp R1 .bl
  | _ => exact hp.elim
theorem orV_reads {ma mb : Env → G → Uk.R D} (h : LE X E (orD ma mb) σ H Q) : tOrV (LE X E ma) (LE X E mb) σ H Q := by
  obtain ⟨r, g, e, R, er, hp⟩ := h
  refine LE.bind R er hp fun r1 g1 H1 d v x R1 er1 q hp => ?_
  cases d with
  | bl b =>
    refine ⟨b, q.bl_inv, ?_⟩
    cases b with
    | true => exact Post.here (d := .bl true) hp R1 .bl
    | false => exact ⟨r1, g1, e, R1, er1, hp⟩
  | _ => exact hp.elim
theorem ok_and1 {pa pb : PySem.Expr} {pos : Pos} {ma mb : Env → G → Uk.R D} (ha : OkE X E pa ma) (hb : OkE X E pb mb) : OkE X E (.BoolOp .And [pa, pb] pos) (andD ma mb) := by
  have pw : PW X (.BoolOp .And [pa, pb] pos) (LT X E (andD ma mb)) := ⟨fun wh pins s σ H Q I h => (pw_and ha.pt (pw_and1 hb.pt)).run wh pins s σ H Q I (and_reads h)⟩
  exact ⟨⟨fun pins s σ H Q I h => (pe_and ha.pe (pe_one hb.pe)).run pins s σ H Q I (andV_reads h)⟩, pw.pt, fun _ => pw⟩
theorem ok_andN {pa pb : PySem.Expr} {l : List PySem.Expr} {pos : Pos} {ma mb : Env → G → Uk.R D} (ha : OkE X E pa ma) (hb : OkE X E (.BoolOp .And (pb :: l) pos) mb) : OkE X E (.BoolOp .And (pa :: pb :: l) pos) (andD ma mb) := by
  have pw : PW X (.BoolOp .And (pa :: pb :: l) pos) (LT X E (andD ma mb)) := ⟨fun wh pins s σ H Q I h => (pw_and ha.pt (hb.pw rfl)).run wh pins s σ H Q I (and_reads h)⟩
  exact ⟨⟨fun pins s σ H Q I h => (pe_and ha.pe hb.pe).run pins s σ H Q I (andV_reads h)⟩, pw.pt, fun _ => pw⟩
theorem ok_or1 {pa pb : PySem.Expr} {pos : Pos} {ma mb : Env → G → Uk.R D} (ha : OkE X E pa ma) (hb : OkE X E pb mb) : OkE X E (.BoolOp .Or [pa, pb] pos) (orD ma mb) := by
  have pw : PW X (.BoolOp .Or [pa, pb] pos) (LT X E (orD ma mb)) := ⟨fun wh pins s σ H Q I h => (pw_or ha.pt (pw_or1 hb.pt)).run wh pins s σ H Q I (or_reads h)⟩
  exact ⟨⟨fun pins s σ H Q I h => (pe_or ha.pe (pe_one hb.pe)).run pins s σ H Q I (orV_reads h)⟩, pw.pt, fun _ => pw⟩
theorem ok_orN {pa pb : PySem.Expr} {l : List PySem.Expr} {pos : Pos} {ma mb : Env → G → Uk.R D} (ha : OkE X E pa ma) (hb : OkE X E (.BoolOp .Or (pb :: l) pos) mb) : OkE X E (.BoolOp .Or (pa :: pb :: l) pos) (orD ma mb) := by
  have pw : PW X (.BoolOp .Or (pa :: pb :: l) pos) (LT X E (orD ma mb)) := ⟨fun wh pins s σ H Q I h => (pw_or ha.pt (hb.pw rfl)).run wh pins s σ H Q I (or_reads h)⟩
  exact ⟨⟨fun pins s σ H Q I h => (pe_or ha.pe hb.pe).run pins s σ H Q I (orV_reads h)⟩, pw.pt, fun _ => pw⟩
theorem ok_not {pa : PySem.Expr} {pos : Pos} {ma : Env → G → Uk.R D} (ha : OkE X E pa ma) : OkE X E (.UnaryOp .Not pa pos) (fun e g => (ma e g).bind fun x g => match x with
    | .bl b => .ok (.bl (!b)) g
    | _ => .bad) := by
  refine ⟨⟨fun pins s σ H Q I ⟨r, g, e, R, er, hp⟩ => (pe_not ha.pe).run pins s σ H Q I (LE.bind R er hp fun r1 g1 H1 d v x R1 er1 q hp => ?_)⟩, ⟨fun pins s σ H Q I ⟨r, g, e, R, er, hp⟩ => (pt_not ha.pt).run pins s σ H Q I (LT.bind R er hp (fun d g1 _ hk => ?_) fun r1 g1 H1 b x R1 er1 hp => ?_)⟩, fun z => absurd z Bool.false_ne_true⟩
  · cases d with
    | bl b => exact ⟨b, q.bl_inv, Post.here (d := .bl !b) hp R1 .bl⟩
    | _ => exact hp.elim
  · cases d with
    | bl b => exact ⟨b, rfl⟩
    | _ => exact absurd rfl hk
  · obtain ⟨b2, eb, q⟩ := Post.here (d := .bl !b) hp R1 .bl
    cases eb
    exact q
theorem ok_ite {pt pa pb : PySem.Expr} {pos : Pos} {mt ma mb : Env → G → Uk.R D} (ht : OkE X E pt mt) (ha : OkE X E pa ma) (hb : OkE X E pb mb) : OkE X E (.IfExp pt pa pb pos) (iteD mt ma mb) := by
  have nb : ∀ {d : D} {e : Env} {g : G}, (match d with
    | .bl true => ma e g
    | .bl false => mb e g
    | _ => (.bad : Uk.R D)) ≠ .bad → ∃ b, d = .bl b := fun {d e g} hk => by
    cases d with
    | bl b => exact ⟨b, rfl⟩
    | _ => exact absurd rfl hk
  refine ⟨⟨fun pins s σ H Q I ⟨r, g, e, R, er, hp⟩ => (pe_ifExp ht.pt ha.pe hb.pe).run pins s σ H Q I (LT.bind R er hp (fun d g1 _ hk => nb hk) fun r1 g1 H1 b x R1 er1 hp => ?_)⟩, ⟨fun pins s σ H Q I ⟨r, g, e, R, er, hp⟩ => ?_⟩, fun z => absurd z Bool.false_ne_true⟩
  · cases b with
    | true => exact ⟨r1, g1, e, R1, er1, hp⟩
    | false => exact ⟨r1, g1, e, R1, er1, hp⟩
  · show wpAny (model X.prog X.w) X.A (do if ← isTrue pt X.env (eval pt X.env) then isTrue pa X.env (eval pa X.env) else isTrue pb X.env (eval pb X.env)) (TP X pins σ Q) X.xe s
    refine wpAny_bind (thn (ht.pt.run pins s σ H (fun b H1 => if b = true then LT X E ma σ H1 Q else LT X E mb σ H1 Q) I (LT.bind R er hp (fun d g1 _ hk => nb hk) fun r1 g1 H1 b x R1 er1 hp => ?_)) fun b s1 ⟨H1, I1, q1⟩ => ?_)
    · cases b with
      | true => exact ⟨r1, g1, e, R1, er1, hp⟩
      | false => exact ⟨r1, g1, e, R1, er1, hp⟩
    · cases b with
      | true => exact ha.pt.run pins s1 σ H1 Q I1 q1
      | false => exact hb.pt.run pins s1 σ H1 Q I1 q1
/-! ## Calls of built-ins -/
theorem ok_bi (O : XOk X ck c N sc E) {f : Bi} {ps : List PySem.Expr} {p pos : Pos} {m : Env → G → Uk.R (List D)} (hg : glB sc (sS f.name) = true) (hne : ps.isEmpty = false) (hpl : ∀ p ∈ ps, plainP p = true) (ha : PA X ps (LA X E m)) :
    PE X (.Call (.Name (sS f.name) p) ps [] pos) (LE X E fun e g => (m e g).bind fun ds g => builtin c f ds g) := by
  obtain ⟨gl, nd, nn⟩ := pe_callD.gl_of O hg
  cases ps with
  | nil => cases hne
  | cons p0 ps =>
    have st := star_plain (ps := ps) (env := X.env) (hpl p0 List.mem_cons_self)
    have ba : (backTo pos (starEach ps X.env)).any (·.1) = false := back_any fun q hq => hpl q (List.mem_cons_of_mem _ hq)
    have hm : X.mg (sS f.name) = none := O.gf.blt f.name (by cases f <;> simp [bnames, Bi.name])
    have key : ∀ {σ : L2.St} {H : Hp} {Q : VK}, (LE X E fun e g => (m e g).bind fun ds g => builtin c f ds g) σ H Q → tCB (crOf X (E σ) (builtin c f)) (LA X E m) σ H Q := fun {σ H Q} ⟨r, g, e, R, er, hp⟩ =>
      LA.bind R er hp fun r1 g1 H1 ds vs x R1 er1 q hp => ⟨r1, g1, ds, R1, q, hp⟩
    refine ⟨fun pins s σ H Q I h => ?_⟩
    cases f with
    | len => exact (pe_callB (cr_lenD (E := E σ) O) gl hm (by decide +kernel) ha nn nd st ba).run pins s σ H Q I (key h)
    | abs => exact (pe_callB (cr_absD (E := E σ)) gl hm (by decide +kernel) ha nn nd st ba).run pins s σ H Q I (key h)
    | int => exact (pe_callTy (cr_intD (E := E σ)) gl hm (by decide +kernel) ha nn nd st ba).run pins s σ H Q I (key h)
    | list => exact (pe_callTy (cr_listD (E := E σ)) gl hm (by decide +kernel) ha nn nd st ba).run pins s σ H Q I (key h)
    | tuple => exact (pe_callTy (cr_tupleD (E := E σ)) gl hm (by decide +kernel) ha nn nd st ba).run pins s σ H Q I (key h)
    | all => exact (pe_callB (cr_allD (E := E σ) O.calm) gl hm (by decide +kernel) ha nn nd st ba).run pins s σ H Q I (key h)
    | any => exact (pe_callB (cr_anyD (E := E σ) O.calm) gl hm (by decide +kernel) ha nn nd st ba).run pins s σ H Q I (key h)
    | max => exact (pe_callB (cr_maxD (E := E σ) O.calm) gl hm (by decide +kernel) ha nn nd st ba).run pins s σ H Q I (key h)
    | min => exact (pe_callB (cr_minD (E := E σ) O.calm) gl hm (by decide +kernel) ha nn nd st ba).run pins s σ H Q I (key h)
/-! ## The block of a comprehension -/
theorem XOk.blk (O : XOk X ck c N sc E) (s : Shared) (H : Hp) (scope : Scope) (cl : List (Str × Addr)) (C : Addr) (fp : List Addr) : XOk (X.blk s H scope (compEnvC scope cl C X.env) fp) ck c N (relS scope sc) E0' where
  nm := O.nm
  nd := O.nd
  sc := by rw [← O.sc]; rfl
  calm := O.calm
  gf := O.gf
  ar0 := O.ar0
  ar1 := O.ar1
  room := O.room
  pass := fun σ => fun _ _ _ _ _ _ h => by
    obtain ⟨_, _, _, _, _, _, _, _, _, _, _, _, z⟩ := h
    exact z.elim
theorem TgOk.blk (O : XOk X ck c N sc E) (s : Shared) (H : Hp) (scope : Scope) (cl : List (Str × Addr)) (C : Addr) (fp : List Addr) : TgOk (X.blk s H scope (compEnvC scope cl C X.env) fp) scope := by
  intro x
  have e1 : (compEnvC scope cl C X.env).scope = relS scope X.env.scope := rfl
  refine ⟨fun h => ?_, fun h => ?_⟩
  · have h2 : (relS scope X.env.scope).names.lookup x = some .local := lookup_relS_keep (by simp) h
    exact ⟨.inl h2, .inr h2⟩
  · have h2 : (relS scope X.env.scope).names.lookup x = some .cell := lookup_relS_keep (by simp) h
    refine ⟨.inr h2, .inl ?_⟩
    show (scope.names.lookup x == some NameKind.cell) = true
    rw [h]
    rfl
theorem ok_comp (O : XOk X ck c N sc E) {pt pi p : PySem.Expr} {ifs : List PySem.Expr} {scope : Scope} {pos : Pos} {vs : List Nat} {tg : Tg} {mi : Env → G → Uk.R (Nat × Wk)} {mc me : Env → G → Uk.R D}
    (hv : (ownOf N vs).map (·.2) = vs) (hb : blkC (N.map sS) sc scope (ownOf N vs) = true) (ht : ckT N scope tg pt = true) (hin : ∀ i ∈ tgIx tg, i ∈ vs) (hi : PI X pt pi (LI X E mi)) (hf : ∀ x, foldedSetIterable pi X.env x = pure x)
    (hc : ∀ (Y : L2.Cx), XOk Y ck c N (relS scope sc) E0' → PTs Y ifs (LT Y E0' mc)) (he : ∀ (Y : L2.Cx), XOk Y ck c N (relS scope sc) E0' → PE Y p (LE Y E0' me)) :
    PE X (.ListComp p [⟨pt, pi, ifs, 0⟩] scope pos) (LE X E (compD mi mc me tg vs)) := by
  have ok : BlkOk X.N X.env.scope scope (ownOf N vs) := by
    rw [O.nm, O.sc]
    exact blkOk_by hb
  have P := pe_lc (elt := p) (tg := pt) (iter := pi) (ifs := ifs) (pos := pos) (wi := LI X E mi) (g := GD X tg) (tt := LT X E0' mc) (te := LE X E0' me) O.calm O.nd hi ok
    (fun s H C cl fp => pg_tg (X := X.blk s H scope (compEnvC scope cl C X.env) fp) O.calm O.nm O.nd (TgOk.blk O s H scope cl C fp) ht)
    (fun s H C cl fp => hc _ (O.blk s H scope cl C fp)) (fun s H C cl fp => he _ (O.blk s H scope cl C fp)) hf
  rw [hv] at P
  exact ⟨fun pins s σ H Q I ⟨r, g, e, R, er, hp⟩ => P.run pins s σ H Q I (lc_reads rfl rfl hin (fun _ _ _ _ h => h) (fun _ _ _ h => h) (fun _ _ _ h => h) R er hp)⟩
end
end Uk
end
section
set_option Elab.async false
set_option linter.all false
set_option maxRecDepth 100000
set_option autoImplicit false
set_option maxHeartbeats 1000000
namespace Uk
open PySem PySem.Spec PyProof.Rows L2
def isEnum (it : Uk.It) : Bool := match it with
  | .enum _ => true
  | _ => false
theorem fold_plain {p : PySem.Expr} {env : PySem.Env} (h : plainP p = true) : ∀ x, foldedSetIterable p env x = pure x := by
  intro x
  cases p <;> first | rfl | exact absurd h Bool.false_ne_true
theorem ckI_plain {P : Pg} {N : List String} {sc : Scope} {it : Uk.It} {p : PySem.Expr} (h : ckI P N sc it p = true) : plainP p = true := by
  cases it with
  | seq e => unfold ckI at h; exact ck_plain h
  | _ =>
    cases p <;> first
      | rfl
      | (exfalso; unfold ckI at h; exact Bool.false_ne_true h)
theorem tg_tuple {N : List String} {scope : Scope} {it : Uk.It} {tg : Tg} {p : PySem.Expr} (h : tgFor it tg = true) (h2 : ckT N scope tg p = true) : isEnum it = true → ∃ elts kk tpos, p = .Tuple elts kk tpos := by
  intro he
  cases it with
  | enum e =>
    cases tg with
    | one i => exact absurd h Bool.false_ne_true
    | many l =>
      cases p with
      | Tuple a b d => exact ⟨a, b, d, rfl⟩
      | _ => exact absurd h2 Bool.false_ne_true
  | _ => exact absurd he Bool.false_ne_true
theorem evs1 (c : Cx) (e : Uk.E) (δ : Env) (g : G) : evs c (.c e .n) δ g = (ev c e δ g).bind fun x g => .ok [x] g := by
  show ((ev c e δ g).bind fun x g => (Uk.R.ok ([] : List D) g).bind fun xs g => .ok (x :: xs) g) = _
  cases ev c e δ g <;> rfl
theorem evs3 (c : Cx) (a b d : Uk.E) (δ : Env) (g : G) : evs c (.c a (.c b (.c d .n))) δ g = (ev c a δ g).bind fun x g => (ev c b δ g).bind fun y g => (ev c d δ g).bind fun z g => .ok [x, y, z] g := by
  show ((ev c a δ g).bind fun x g => ((ev c b δ g).bind fun y g => ((ev c d δ g).bind fun z g => (Uk.R.ok ([] : List D) g).bind fun xs g => .ok (z :: xs) g).bind fun xs g => .ok (y :: xs) g).bind fun xs g => .ok (x :: xs) g) = _
  cases ev c a δ g with
  | ok x g1 =>
    show ((ev c b δ g1).bind fun y g => ((ev c d δ g).bind fun z g => (Uk.R.ok ([] : List D) g).bind fun xs g => .ok (z :: xs) g).bind fun xs g => .ok (y :: xs) g).bind _ = ((ev c b δ g1).bind fun y g => (ev c d δ g).bind fun z g => .ok [x, y, z] g)
    cases ev c b δ g1 with
    | ok y g2 =>
      show ((((ev c d δ g2).bind fun z g => (Uk.R.ok ([] : List D) g).bind fun xs g => .ok (z :: xs) g).bind fun xs g => .ok (y :: xs) g).bind _) = ((ev c d δ g2).bind fun z g => .ok [x, y, z] g)
      cases ev c d δ g2 <;> rfl
    | exc _ _ => rfl
    | bad => rfl
  | exc _ _ => rfl
  | bad => rfl
/-! ## Calls, read back -/
theorem ck_call {P : Pg} {N : List String} {sc : Scope} {f : String} {es : Uk.Es} {p : PySem.Expr} (h : ckE P N sc (.call f es) p = true) : ∃ p1 ps pos, p = .Call (.Name (sS f) p1) ps [] pos ∧ glB sc (sS f) = true ∧ (P.fn "" f).isSome = true ∧ ckEs P N sc es ps = true := by
  unfold ckE at h
  split at h
  all_goals first
    | (rename_i hh; cases hh; done)
    | exact absurd h Bool.false_ne_true
    | (rename_i hh
       cases hh
       simp only [Bool.and_eq_true] at h
       obtain ⟨⟨⟨h1, h2⟩, h3⟩, h4⟩ := h
       have h1 := of_decide_eq_true h1
       subst h1
       exact ⟨_, _, _, rfl, h2, h3, h4⟩)
theorem ck_mk {P : Pg} {N : List String} {sc : Scope} {f : String} {es : Uk.Es} {p : PySem.Expr} (h : ckE P N sc (.mk f es) p = true) : ∃ p1 ps pos, p = .Call (.Name (sS f) p1) ps [] pos ∧ glB sc (sS f) = true ∧ P.cls f = true ∧ P.prop f "__init__" = false ∧ ckEs P N sc es ps = true := by
  unfold ckE at h
  split at h
  all_goals first
    | (rename_i hh; cases hh; done)
    | exact absurd h Bool.false_ne_true
    | (rename_i hh
       cases hh
       simp only [Bool.and_eq_true] at h
       obtain ⟨⟨⟨⟨h1, h2⟩, h3⟩, h4⟩, h5⟩ := h
       have h1 := of_decide_eq_true h1
       subst h1
       exact ⟨_, _, _, rfl, h2, h3, by simpa using h4, h5⟩)
theorem ck_met {P : Pg} {N : List String} {sc : Scope} {a : Uk.E} {f : String} {es : Uk.Es} {p : PySem.Expr} (h : ckE P N sc (.met a f es) p = true) : ∃ q p1 ps pos, p = .Call (.Attribute q (sS f) p1) ps [] pos ∧ noSup q = true ∧ lineB p1 pos = true ∧ ps.length < 30 ∧ ckE P N sc a q = true ∧ ckEs P N sc es ps = true := by
  unfold ckE at h
  split at h
  all_goals first
    | (rename_i hh; cases hh; done)
    | exact absurd h Bool.false_ne_true
    | (rename_i hh
       cases hh
       simp only [Bool.and_eq_true] at h
       obtain ⟨⟨⟨⟨⟨h1, h2⟩, h3⟩, h4⟩, h5⟩, h6⟩ := h
       have h1 := of_decide_eq_true h1
       subst h1
       exact ⟨_, _, _, _, rfl, h2, h3, of_decide_eq_true h4, h5, h6⟩)
theorem ck_bi {P : Pg} {N : List String} {sc : Scope} {f : Bi} {es : Uk.Es} {p : PySem.Expr} (h : ckE P N sc (.bi f es) p = true) : ∃ p1 ps pos, p = .Call (.Name (sS f.name) p1) ps [] pos ∧ glB sc (sS f.name) = true ∧ ps.isEmpty = false ∧ ckEs P N sc es ps = true := by
  unfold ckE at h
  split at h
  all_goals first
    | (rename_i hh; cases hh; done)
    | exact absurd h Bool.false_ne_true
    | (rename_i hh
       cases hh
       simp only [Bool.and_eq_true] at h
       obtain ⟨⟨⟨h1, h2⟩, h3⟩, h4⟩ := h
       have h1 := of_decide_eq_true h1
       subst h1
       exact ⟨_, _, _, rfl, h2, by simpa using h3, h4⟩)
theorem ck_isi {P : Pg} {N : List String} {sc : Scope} {a : Uk.E} {t : String} {p : PySem.Expr} (h : ckE P N sc (.isi a t) p = true) : ∃ p1 q p2 pos, p = .Call (.Name (sS "isinstance") p1) [q, .Name (sS t) p2] [] pos ∧ glB sc (sS "isinstance") = true ∧ glB sc (sS t) = true ∧ (P.cls t = true ∨ t ∈ ["int", "bool", "str", "tuple", "list", "dict"]) ∧ ckE P N sc a q = true := by
  unfold ckE at h
  split at h
  all_goals first
    | (rename_i hh; cases hh; done)
    | exact absurd h Bool.false_ne_true
    | (rename_i hh
       cases hh
       simp only [Bool.and_eq_true, Bool.or_eq_true, List.contains_iff_mem] at h
       obtain ⟨⟨⟨⟨⟨h1, h2⟩, h3⟩, h4⟩, h5⟩, h6⟩ := h
       have h1 := of_decide_eq_true h1
       have h3 := of_decide_eq_true h3
       subst h1 h3
       exact ⟨_, _, _, _, rfl, h2, h4, h5, h6⟩)
theorem ck_comp {P : Pg} {N : List String} {sc : Scope} {vs : List Nat} {elt : Uk.E} {tg : Tg} {it : Uk.It} {cond : Uk.E} {p : PySem.Expr} (h : ckE P N sc (.comp vs elt tg it cond) p = true) : ∃ q pt pi ifs scope pos, p = .ListComp q [⟨pt, pi, ifs, 0⟩] scope pos ∧ (ownOf N vs).map (·.2) = vs ∧ blkC (N.map sS) sc scope (ownOf N vs) = true ∧ ckT N scope tg pt = true ∧ (∀ i ∈ tgIx tg, i ∈ vs) ∧
    tgFor it tg = true ∧ ckI P N sc it pi = true ∧ ((ifs = [] ∧ cond = .cst (.bl true)) ∨ ∃ q, ifs = [q] ∧ ckE P N (relS scope sc) cond q = true) ∧ ckE P N (relS scope sc) elt q = true := by
  unfold ckE at h
  split at h
  all_goals first
    | (rename_i hh; cases hh; done)
    | exact absurd h Bool.false_ne_true
    | (rename_i hh
       cases hh
       split at h
       · simp only [Bool.and_eq_true, List.all_eq_true, List.contains_iff_mem] at h
         obtain ⟨⟨⟨⟨⟨⟨⟨⟨h1, h2⟩, h3⟩, h4⟩, h5⟩, h6⟩, h7⟩, h8⟩, h9⟩ := h
         have h1 := of_decide_eq_true h1
         subst h1
         refine ⟨_, _, _, _, _, _, rfl, of_decide_eq_true h2, h3, h4, h5, h6, h7, ?_, h9⟩
         split at h8
         · split at h8
           · exact .inl ⟨rfl, rfl⟩
           · cases h8
         · rw [Bool.and_eq_true] at h8
           exact .inr ⟨_, rfl, h8.1⟩
         · cases h8
       · cases h)
theorem ck_enum {P : Pg} {N : List String} {sc : Scope} {e : Uk.E} {p : PySem.Expr} (h : ckI P N sc (.enum e) p = true) : ∃ p1 q pos, p = .Call (.Name (sS "enumerate") p1) [q] [] pos ∧ glB sc (sS "enumerate") = true ∧ ckE P N sc e q = true := by
  unfold ckI at h
  split at h
  all_goals first
    | (rename_i hh; cases hh; done)
    | exact absurd h Bool.false_ne_true
    | (rename_i hh
       cases hh
       simp only [Bool.and_eq_true] at h
       obtain ⟨⟨h1, h2⟩, h3⟩ := h
       have h1 := of_decide_eq_true h1
       subst h1
       exact ⟨_, _, _, rfl, h2, h3⟩)
theorem ck_r1 {P : Pg} {N : List String} {sc : Scope} {e : Uk.E} {p : PySem.Expr} (h : ckI P N sc (.r1 e) p = true) : ∃ p1 q pos, p = .Call (.Name (sS "range") p1) [q] [] pos ∧ glB sc (sS "range") = true ∧ ckE P N sc e q = true := by
  unfold ckI at h
  split at h
  all_goals first
    | (rename_i hh; cases hh; done)
    | exact absurd h Bool.false_ne_true
    | (rename_i hh
       cases hh
       simp only [Bool.and_eq_true] at h
       obtain ⟨⟨h1, h2⟩, h3⟩ := h
       have h1 := of_decide_eq_true h1
       subst h1
       exact ⟨_, _, _, rfl, h2, h3⟩)
theorem ck_r3 {P : Pg} {N : List String} {sc : Scope} {a b d : Uk.E} {p : PySem.Expr} (h : ckI P N sc (.r3 a b d) p = true) : ∃ p1 pa pb pd pos, p = .Call (.Name (sS "range") p1) [pa, pb, pd] [] pos ∧ glB sc (sS "range") = true ∧ ckE P N sc a pa = true ∧ ckE P N sc b pb = true ∧ ckE P N sc d pd = true := by
  unfold ckI at h
  split at h
  all_goals first
    | (rename_i hh; cases hh; done)
    | exact absurd h Bool.false_ne_true
    | (rename_i hh
       cases hh
       simp only [Bool.and_eq_true] at h
       obtain ⟨⟨⟨⟨h1, h2⟩, h3⟩, h4⟩, h5⟩ := h
       have h1 := of_decide_eq_true h1
       subst h1
       exact ⟨_, _, _, _, _, rfl, h2, h3, h4, h5⟩)
theorem ckPs_all {P : Pg} {N : List String} {sc : Scope} : ∀ {ps : Uk.Ps} {ks : List (Option PySem.Expr)} {vs : List PySem.Expr}, ckPs P N sc ps ks vs = true → ks.all (·.isSome) = true ∧ ks.length = vs.length
  | .n, ks, vs, h => by
    match ks, vs, h with
    | [], [], _ => exact ⟨rfl, rfl⟩
    | [], _ :: _, h => unfold ckPs at h; exact absurd h Bool.false_ne_true
    | _ :: _, _, h => unfold ckPs at h; exact absurd h Bool.false_ne_true
  | .c k v rest, ks, vs, h => by
    match ks, vs, h with
    | [], _, h => unfold ckPs at h; exact absurd h Bool.false_ne_true
    | none :: _, _, h => unfold ckPs at h; exact absurd h Bool.false_ne_true
    | some _ :: _, [], h => unfold ckPs at h; exact absurd h Bool.false_ne_true
    | some p :: ks, q :: vs, h =>
      unfold ckPs at h
      simp only [Bool.and_eq_true] at h
      obtain ⟨a, b⟩ := ckPs_all h.2
      exact ⟨by simpa using a, by simp [b]⟩
theorem evs_of_nil {c : Cx} {P : Pg} {N : List String} {sc : Scope} {es : Uk.Es} {ps : List PySem.Expr} (h : ckEs P N sc es ps = true) : ps = [] → ∀ e g, evs c es e g = .ok [] g := by
  intro e δ g
  subst e
  rw [evs_nil h]
  rfl
section
variable {ck : Arguments → List Stmt → Scope → FDef → Bool} {c : Cx} {N : List String}
theorem pi_r3D {X : L2.Cx} {sc : Scope} {E : L2.St → XK} {tg pa pb pd : PySem.Expr} {p1 pos : Pos} {a b d : Uk.E} (O : XOk X ck c N sc E) (hg : glB sc (sS "range") = true) (hpl : ∀ p ∈ [pa, pb, pd], plainP p = true) (ha : PA X [pa, pb, pd] (LA X E (evs c (.c a (.c b (.c d .n)))))) :
    PI X tg (.Call (.Name (sS "range") p1) [pa, pb, pd] [] pos) (LI X E (evI c (.r3 a b d))) := by
  obtain ⟨gl, nd, nn⟩ := pe_callD.gl_of O hg
  have ba : (backTo pos (starEach [pb, pd] X.env)).any (·.1) = false := back_any fun q hq => hpl q (List.mem_cons_of_mem _ hq)
  have P1 := pi_range3 (tg := tg) (p := p1) (pos := pos) gl (O.gf.blt "range" (by simp [bnames])) ha (star_plain (hpl pa List.mem_cons_self)) ba
  refine ⟨fun pins s σ H Rr I ⟨r, g, e, R, er, hp⟩ => P1.run pins s σ H Rr I ⟨r, g, e, R, er, ?_⟩⟩
  have e2 : evI c (.r3 a b d) e g = (evs c (.c a (.c b (.c d .n))) e g).bind fun l g => match l with
      | [x, y, z] => (match rng3 x y z with
        | some w => .ok w g
        | none => .bad)
      | _ => .bad := by
    rw [evs3]
    show ((ev c a e g).bind fun x g => (ev c b e g).bind fun y g => (ev c d e g).bind fun z g => match rng3 x y z with
      | some w => .ok w g
      | none => .bad) = _
    cases ev c a e g with
    | ok x g1 =>
      show ((ev c b e g1).bind fun y g => (ev c d e g).bind fun z g => match rng3 x y z with
        | some w => .ok w g
        | none => .bad) = ((ev c b e g1).bind fun y g => (ev c d e g).bind fun z g => .ok [x, y, z] g).bind _
      cases ev c b e g1 with
      | ok y g2 =>
        show ((ev c d e g2).bind fun z g => match rng3 x y z with
          | some w => .ok w g
          | none => .bad) = ((ev c d e g2).bind fun z g => .ok [x, y, z] g).bind _
        cases ev c d e g2 <;> rfl
      | exc _ _ => rfl
      | bad => rfl
    | exc _ _ => rfl
    | bad => rfl
  rw [e2] at hp
  cases hm : evs c (.c a (.c b (.c d .n))) e g with
  | bad => rw [hm] at hp; exact hp.elim
  | exc x g1 => rw [hm] at hp; exact hp
  | ok ds g1 =>
    rw [hm] at hp
    intro r' vs H' x R' q
    rw [evs3] at hm
    have h3 : ∃ x y z, ds = [x, y, z] := by
      cases h1 : ev c a e g with
      | ok x g1 =>
        rw [h1] at hm
        have hm : ((ev c b e g1).bind fun y g => (ev c d e g).bind fun z g => Uk.R.ok [x, y, z] g) = _ := hm
        cases h2 : ev c b e g1 with
        | ok y g2 =>
          rw [h2] at hm
          have hm : ((ev c d e g2).bind fun z g => Uk.R.ok [x, y, z] g) = _ := hm
          cases h4 : ev c d e g2 with
          | ok z g3 => rw [h4] at hm; cases hm; exact ⟨_, _, _, rfl⟩
          | exc _ _ => rw [h4] at hm; cases hm
          | bad => rw [h4] at hm; cases hm
        | exc _ _ => rw [h2] at hm; cases hm
        | bad => rw [h2] at hm; cases hm
      | exc _ _ => rw [h1] at hm; cases hm
      | bad => rw [h1] at hm; cases hm
    obtain ⟨dx, dy, dz, rfl⟩ := h3
    have hp : PostI X.K X.mg (E σ) r H (match rng3 dx dy dz with
        | some w => .ok w g1
        | none => .bad) Rr := hp
    obtain ⟨v1, w1, rfl, q1, w2⟩ := q.inv
    obtain ⟨v2, v3, rfl, q2, q3⟩ := w2.two
    unfold rng3 at hp
    split at hp
    · rename_i w hw
      split at hw
      · split at hw
        · rename_i hj
          cases hw
          refine ⟨_, _, -1, _, by rw [q1.int_inv, q2.int_inv, q3.int_inv], RgC.neg (by omega) (by omega) (by omega) (by omega), hp r' H' _ x R' Wk.rng_ok⟩
        · cases hw
      · cases hw
    · exact hp.elim
theorem pa_n {X : L2.Cx} {E : L2.St → XK} : PA X [] (LA X E (evs c .n)) := ⟨fun pos pins s σ H Q I ⟨r, g, e, R, er, hp⟩ => pa_nil.run pos pins s σ H Q I (hp r [] H (.refl _ _) R (VRs.nil_iff.mpr rfl))⟩
theorem pa_c {X : L2.Cx} {E : L2.St → XK} {p : PySem.Expr} {ps : List PySem.Expr} {e : Uk.E} {es : Uk.Es} (hpl : plainP p = true) (h1 : PE X p (LE X E (ev c e))) (h2 : PA X ps (LA X E (evs c es))) : PA X (p :: ps) (LA X E (evs c (.c e es))) := by
  refine ⟨fun pos pins s σ H Q I ⟨r, g, δ, R, er, hp⟩ => (pa_cons h1 h2 (star_plain hpl)).run pos pins s σ H Q I ?_⟩
  exact LE.bindA R er hp fun r1 g1 H1 d v x R1 er1 q hp => LA.bindA R1 er1 hp fun r2 g2 H2 ds vs x2 R2 er2 q2 hp => hp r2 _ H2 (.refl _ _) R2 (.cons (VR.mono x2 _ _ q) q2)
mutual
theorem okE (HE : ∀ X sc (E : L2.St → XK), XOk X ck c N sc E → ∀ E, EqIns X c E) : ∀ (e : Uk.E) (X : L2.Cx) (sc : Scope) (E : L2.St → XK) (p : PySem.Expr), XOk X ck c N sc E → ckE c.P N sc e p = true → OkE X E p (ev c e)
  | .cst d, X, sc, E, p, O, h => by
    cases p with
    | Constant k j pos =>
      unfold ckE at h
      exact .of rfl (ok_cst h)
    | _ => unfold ckE at h; exact absurd h Bool.false_ne_true
  | .loc i, X, sc, E, p, O, h => by
    cases p with
    | Name x pos =>
      unfold ckE at h
      exact .of rfl (ok_loc O h)
    | _ => unfold ckE at h; exact absurd h Bool.false_ne_true
  | .glo s, X, sc, E, p, O, h => by
    cases p with
    | Name x pos =>
      unfold ckE at h
      simp only [Bool.and_eq_true] at h
      obtain ⟨⟨h1, h2⟩, h3⟩ := h
      have h1 := of_decide_eq_true h1
      subst h1
      exact .of rfl (ok_glo O h2 h3)
    | _ => unfold ckE at h; exact absurd h Bool.false_ne_true
  | .tup es, X, sc, E, p, O, h => by
    cases p with
    | Tuple ps k pos =>
      unfold ckE at h
      exact .of rfl (ok_tup (okEs HE es X sc E ps O h))
    | _ => unfold ckE at h; exact absurd h Bool.false_ne_true
  | .lst es, X, sc, E, p, O, h => by
    cases p with
    | List ps pos =>
      unfold ckE at h
      exact .of rfl (ok_lst (okEs HE es X sc E ps O h))
    | _ => unfold ckE at h; exact absurd h Bool.false_ne_true
  | .bin o a b, X, sc, E, p, O, h => by
    cases p with
    | BinOp pa q pb pos =>
      unfold ckE at h
      simp only [Bool.and_eq_true] at h
      obtain ⟨⟨h1, h2⟩, h3⟩ := h
      have h1 : bopOp o = q := of_decide_eq_true h1
      subst h1
      exact .of rfl (ok_bin (okE HE a X sc E pa O h2).pe (okE HE b X sc E pb O h3).pe)
    | _ => unfold ckE at h; exact absurd h Bool.false_ne_true
  | .neg a, X, sc, E, p, O, h => by
    cases p with
    | UnaryOp o pa pos =>
      cases o with
      | USub =>
        unfold ckE at h
        exact .of rfl (ok_neg (okE HE a X sc E pa O h).pe)
      | _ => unfold ckE at h; exact absurd h Bool.false_ne_true
    | _ => unfold ckE at h; exact absurd h Bool.false_ne_true
  | .cmp o a b, X, sc, E, p, O, h => by
    cases p with
    | Compare pa os bs pos =>
      match os, bs with
      | [q], [t] =>
        unfold ckE at h
        simp only [Bool.and_eq_true] at h
        obtain ⟨⟨h1, h2⟩, h3⟩ := h
        obtain ⟨h4, h5⟩ := copB_inv h1
        subst h4
        exact ok_cmp O (HE X sc E O) (ck_plain h3) h5 (okE HE a X sc E pa O h2).pe (okE HE b X sc E t O h3).pe
      | [], _ => unfold ckE at h; exact absurd h Bool.false_ne_true
      | [_], [] => unfold ckE at h; exact absurd h Bool.false_ne_true
      | [_], _ :: _ :: _ => unfold ckE at h; exact absurd h Bool.false_ne_true
      | _ :: _ :: _, _ => unfold ckE at h; exact absurd h Bool.false_ne_true
    | _ => unfold ckE at h; exact absurd h Bool.false_ne_true
  | .chn a o b o2 d, X, sc, E, p, O, h => by
    cases p with
    | Compare pa os bs pos =>
      match os, bs with
      | [q, q2], [t, u] =>
        unfold ckE at h
        simp only [Bool.and_eq_true] at h
        obtain ⟨⟨⟨⟨h1, h2⟩, h3⟩, h6⟩, h7⟩ := h
        obtain ⟨h4, h5⟩ := copB_inv h1
        obtain ⟨h8, h9⟩ := copB_inv h2
        subst h4 h8
        exact ok_chn O (HE X sc E O) (ck_plain h7) h5 h9 (okE HE a X sc E pa O h3).pe (okE HE b X sc E t O h6).pe (okE HE d X sc E u O h7).pe
      | [], _ => unfold ckE at h; exact absurd h Bool.false_ne_true
      | [_], _ => unfold ckE at h; exact absurd h Bool.false_ne_true
      | [_, _], [] => unfold ckE at h; exact absurd h Bool.false_ne_true
      | [_, _], [_] => unfold ckE at h; exact absurd h Bool.false_ne_true
      | [_, _], _ :: _ :: _ :: _ => unfold ckE at h; exact absurd h Bool.false_ne_true
      | _ :: _ :: _ :: _, _ => unfold ckE at h; exact absurd h Bool.false_ne_true
    | _ => unfold ckE at h; exact absurd h Bool.false_ne_true
  | .and_ a b, X, sc, E, p, O, h => by
    cases p with
    | BoolOp o ps pos =>
      cases o with
      | And =>
        match ps with
        | [] => unfold ckE at h; exact absurd h Bool.false_ne_true
        | [_] => unfold ckE at h; exact absurd h Bool.false_ne_true
        | [pa, pb] =>
          unfold ckE at h
          simp only [Bool.and_eq_true] at h
          exact ok_and1 (okE HE a X sc E pa O h.1) (okE HE b X sc E pb O h.2)
        | pa :: pb :: pc :: l =>
          unfold ckE at h
          simp only [Bool.and_eq_true] at h
          exact ok_andN (okE HE a X sc E pa O h.1) (okE HE b X sc E _ O h.2)
      | Or => unfold ckE at h; exact absurd h Bool.false_ne_true
    | _ => unfold ckE at h; exact absurd h Bool.false_ne_true
  | .or_ a b, X, sc, E, p, O, h => by
    cases p with
    | BoolOp o ps pos =>
      cases o with
      | Or =>
        match ps with
        | [] => unfold ckE at h; exact absurd h Bool.false_ne_true
        | [_] => unfold ckE at h; exact absurd h Bool.false_ne_true
        | [pa, pb] =>
          unfold ckE at h
          simp only [Bool.and_eq_true] at h
          exact ok_or1 (okE HE a X sc E pa O h.1) (okE HE b X sc E pb O h.2)
        | pa :: pb :: pc :: l =>
          unfold ckE at h
          simp only [Bool.and_eq_true] at h
          exact ok_orN (okE HE a X sc E pa O h.1) (okE HE b X sc E _ O h.2)
      | And => unfold ckE at h; exact absurd h Bool.false_ne_true
    | _ => unfold ckE at h; exact absurd h Bool.false_ne_true
  | .not_ a, X, sc, E, p, O, h => by
    cases p with
    | UnaryOp o pa pos =>
      cases o with
      | Not =>
        unfold ckE at h
        exact ok_not (okE HE a X sc E pa O h)
      | _ => unfold ckE at h; exact absurd h Bool.false_ne_true
    | _ => unfold ckE at h; exact absurd h Bool.false_ne_true
  | .ite t a b, X, sc, E, p, O, h => by
    cases p with
    | IfExp pt pa pb pos =>
      unfold ckE at h
      simp only [Bool.and_eq_true] at h
      obtain ⟨⟨⟨h1, _⟩, h2⟩, h3⟩ := h
      exact ok_ite (okE HE t X sc E pt O h1) (okE HE a X sc E pa O h2) (okE HE b X sc E pb O h3)
    | _ => unfold ckE at h; exact absurd h Bool.false_ne_true
  | .ix a i, X, sc, E, p, O, h => by
    cases p with
    | Subscript pa pb pos =>
      unfold ckE at h
      simp only [Bool.and_eq_true] at h
      exact .of rfl (ok_ix O.units (ck_plain h.2) (okE HE a X sc E pa O h.1).pe (okE HE i X sc E pb O h.2).pe)
    | _ => unfold ckE at h; exact absurd h Bool.false_ne_true
  | .cut a lo hi, X, sc, E, p, O, h => by
    cases p with
    | Subscript pa q pos =>
      cases q with
      | Slice l hh st p1 =>
        cases st with
        | none =>
          unfold ckE at h
          simp only [Bool.and_eq_true] at h
          obtain ⟨⟨h1, h2⟩, h3⟩ := h
          have L1 : (l = none ∧ isnC lo = true) ∨ (∃ q, l = some q ∧ isnC lo = false ∧ PE X q (LE X E (ev c lo))) := by
            cases l with
            | none => exact .inl ⟨rfl, h2⟩
            | some q =>
              rw [Bool.and_eq_true, Bool.not_eq_true'] at h2
              exact .inr ⟨q, rfl, h2.1, (okE HE lo X sc E q O h2.2).pe⟩
          have L2 : (hh = none ∧ isnC hi = true) ∨ (∃ q, hh = some q ∧ isnC hi = false ∧ PE X q (LE X E (ev c hi))) := by
            cases hh with
            | none => exact .inl ⟨rfl, h3⟩
            | some q =>
              rw [Bool.and_eq_true, Bool.not_eq_true'] at h3
              exact .inr ⟨q, rfl, h3.1, (okE HE hi X sc E q O h3.2).pe⟩
          have P := ok_cut (p1 := p1) (pos := pos) (okE HE a X sc E pa O h1).pe L1 L2
          refine .of rfl ⟨fun pins s σ H Q I ⟨r, g, e, R, er, hp⟩ => P.run pins s σ H Q I ⟨r, g, e, R, er, ?_⟩⟩
          refine cast ?_ hp
          congr 1
          show ((ev c a e g).bind fun x g => match isnC lo, isnC hi with
            | true, true => getCut x none none g
            | true, false => (ev c hi e g).bind fun h g => orElse h.int? fun h => getCut x none (some h) g
            | false, true => (ev c lo e g).bind fun l g => orElse l.int? fun l => getCut x (some l) none g
            | false, false => (ev c lo e g).bind fun l g => orElse l.int? fun l => (ev c hi e g).bind fun h g => orElse h.int? fun h => getCut x (some l) (some h) g) = _
          congr 1
          funext x g
          unfold pO
          cases isnC lo <;> cases isnC hi <;> rfl
        | some _ => unfold ckE at h; exact absurd h Bool.false_ne_true
      | _ => unfold ckE at h; exact absurd h Bool.false_ne_true
    | _ => unfold ckE at h; exact absurd h Bool.false_ne_true
  | .rev a, X, sc, E, p, O, h => by
    cases p <;> (unfold ckE at h; exact absurd h Bool.false_ne_true)
  | .att a f, X, sc, E, p, O, h => by
    cases p with
    | Attribute pa x pos =>
      unfold ckE at h
      simp only [Bool.and_eq_true] at h
      obtain ⟨⟨h1, h2⟩, h3⟩ := h
      have h1 := of_decide_eq_true h1
      subst h1
      exact .of rfl (pe_attD O h2 (okE HE a X sc E pa O h3).pe)
    | _ => unfold ckE at h; exact absurd h Bool.false_ne_true
  | .call f es, X, sc, E, p, O, h => by
    obtain ⟨p1, ps, pos, rfl, h1, h2, h3⟩ := ck_call h
    exact .of rfl (pe_callD O h1 (ckEs_all h3) (evs_of_nil h3) h2 (okEs HE es X sc E ps O h3))
  | .mk f es, X, sc, E, p, O, h => by
    obtain ⟨p1, ps, pos, rfl, h1, h2, h3, h4⟩ := ck_mk h
    exact .of rfl (pe_mkD O h1 (ckEs_all h4) (evs_of_nil h4) h2 h3 (okEs HE es X sc E ps O h4))
  | .met a m es, X, sc, E, p, O, h => by
    obtain ⟨q, p1, ps, pos, rfl, h1, h2, h3, h4, h5⟩ := ck_met h
    exact .of rfl (pe_metD O h1 (ckEs_all h5) (evs_of_nil h5) h3 h2 (okE HE a X sc E q O h4).pe (okEs HE es X sc E ps O h5))
  | .bi f es, X, sc, E, p, O, h => by
    obtain ⟨p1, ps, pos, rfl, h1, h2, h3⟩ := ck_bi h
    exact .of rfl (ok_bi O h1 h2 (ckEs_all h3) (okEs HE es X sc E ps O h3))
  | .isi a t, X, sc, E, p, O, h => by
    obtain ⟨p1, q, p2, pos, rfl, h1, h2, h3, h4⟩ := ck_isi h
    exact .of rfl (pe_isiD O h1 h2 (ck_plain h4) h3 (okE HE a X sc E q O h4).pe)
  | .comp vs elt tg it cond, X, sc, E, p, O, h => by
    obtain ⟨q, pt, pi, ifs, scope, pos, rfl, h1, h2, h3, h4, h5, h6, h7, h8⟩ := ck_comp h
    refine .of rfl (ok_comp O h1 h2 h3 h4 (okI HE it X sc E pt pi O (tg_tuple h5 h3) h6) (fold_plain (ckI_plain h6)) (fun Y OY => ?_) (fun Y OY => (okE HE elt Y (relS scope sc) E0' q OY h8).pe))
    rcases h7 with ⟨rfl, rfl⟩ | ⟨q2, rfl, h7⟩
    · exact ⟨fun pins s σ H Q I ⟨r, g, e, R, er, hp⟩ => by
        obtain ⟨b, eb, hq⟩ := Post.here (d := .bl true) hp R .bl
        cases eb
        exact pts_nil.run pins s σ H Q I hq⟩
    · exact pts_one (okE HE cond Y (relS scope sc) E0' q2 OY h7).pt
  | .nope, X, sc, E, p, O, h => ⟨⟨fun pins s σ H Q I ⟨r, g, e, R, er, hp⟩ => hp.elim⟩, ⟨fun pins s σ H Q I ⟨r, g, e, R, er, hp⟩ => hp.elim⟩, fun _ => ⟨fun wh pins s σ H Q I ⟨r, g, e, R, er, hp⟩ => hp.elim⟩⟩
  | .exf f, X, sc, E, p, O, h => by cases p <;> (unfold ckE at h; exact absurd h Bool.false_ne_true)
  | .exi f, X, sc, E, p, O, h => by cases p <;> (unfold ckE at h; exact absurd h Bool.false_ne_true)
  | .dsp t ps, X, sc, E, p, O, h => by
    cases p with
    | Dict ks vs pos =>
      unfold ckE at h
      simp only [Bool.and_eq_true, Bool.not_eq_true'] at h
      obtain ⟨⟨⟨h1, h2⟩, h3⟩, h4⟩ := h
      subst h1
      obtain ⟨a1, a2⟩ := ckPs_all h4
      exact .of rfl (pe_dspD (okPs HE ps X sc E ks vs pos O h4) a1 a2 (fun z => by rw [z] at h2; cases h2) (of_decide_eq_true h3))
    | _ => unfold ckE at h; exact absurd h Bool.false_ne_true
theorem okPs (HE : ∀ X sc (E : L2.St → XK), XOk X ck c N sc E → ∀ E, EqIns X c E) : ∀ (ps : Uk.Ps) (X : L2.Cx) (sc : Scope) (E : L2.St → XK) (ks : List (Option PySem.Expr)) (vs : List PySem.Expr) (pos : Pos), XOk X ck c N sc E → ckPs c.P N sc ps ks vs = true → PPs X pos ks vs (trsOf c E X ps)
  | .n, X, sc, E, ks, vs, pos, O, h => by
    match ks, vs, h with
    | [], [], _ => exact pps_nil
    | [], _ :: _, h => unfold ckPs at h; exact absurd h Bool.false_ne_true
    | _ :: _, _, h => unfold ckPs at h; exact absurd h Bool.false_ne_true
  | .c k v rest, X, sc, E, ks, vs, pos, O, h => by
    match ks, vs, h with
    | [], _, h => unfold ckPs at h; exact absurd h Bool.false_ne_true
    | none :: _, _, h => unfold ckPs at h; exact absurd h Bool.false_ne_true
    | some _ :: _, [], h => unfold ckPs at h; exact absurd h Bool.false_ne_true
    | some p :: ks, q :: vs, h =>
      unfold ckPs at h
      simp only [Bool.and_eq_true] at h
      obtain ⟨⟨h1, h2⟩, h3⟩ := h
      exact pps_cons (okE HE k X sc E p O h1).pe (okE HE v X sc E q O h2).pe (okPs HE rest X sc E ks vs pos O h3)
theorem okEs (HE : ∀ X sc (E : L2.St → XK), XOk X ck c N sc E → ∀ E, EqIns X c E) : ∀ (es : Uk.Es) (X : L2.Cx) (sc : Scope) (E : L2.St → XK) (ps : List PySem.Expr), XOk X ck c N sc E → ckEs c.P N sc es ps = true → PA X ps (LA X E (evs c es))
  | .n, X, sc, E, ps, O, h => by
    cases ps with
    | nil => exact pa_n
    | cons _ _ => unfold ckEs at h; exact absurd h Bool.false_ne_true
  | .c e es, X, sc, E, ps, O, h => by
    cases ps with
    | nil => unfold ckEs at h; exact absurd h Bool.false_ne_true
    | cons p ps =>
      unfold ckEs at h
      rw [Bool.and_eq_true] at h
      exact pa_c (ck_plain h.1) (okE HE e X sc E p O h.1).pe (okEs HE es X sc E ps O h.2)
theorem okI (HE : ∀ X sc (E : L2.St → XK), XOk X ck c N sc E → ∀ E, EqIns X c E) : ∀ (it : Uk.It) (X : L2.Cx) (sc : Scope) (E : L2.St → XK) (tg p : PySem.Expr), XOk X ck c N sc E → (isEnum it = true → ∃ elts kk tpos, tg = .Tuple elts kk tpos) → ckI c.P N sc it p = true → PI X tg p (LI X E (evI c it))
  | .seq e, X, sc, E, tg, p, O, ht, h => by
    unfold ckI at h
    exact pi_seqD (okE HE e X sc E p O h).pe
  | .enum e, X, sc, E, tg, p, O, ht, h => by
    obtain ⟨p1, q, pos, rfl, h1, h2⟩ := ck_enum h
    obtain ⟨elts, kk, tpos, rfl⟩ := ht rfl
    exact pi_enumD O h1 (ck_plain h2) (okE HE e X sc E q O h2).pe
  | .r1 e, X, sc, E, tg, p, O, ht, h => by
    obtain ⟨p1, q, pos, rfl, h1, h2⟩ := ck_r1 h
    exact pi_r1D O h1 (ck_plain h2) (okE HE e X sc E q O h2).pe
  | .r3 a b d, X, sc, E, tg, p, O, ht, h => by
    obtain ⟨p1, pa, pb, pd, pos, rfl, h1, h2, h3, h4⟩ := ck_r3 h
    have hpl : ∀ p ∈ [pa, pb, pd], plainP p = true := fun p hp => by
      simp only [List.mem_cons, List.not_mem_nil, or_false] at hp
      rcases hp with rfl | rfl | rfl
      · exact ck_plain h2
      · exact ck_plain h3
      · exact ck_plain h4
    refine pi_r3D O h1 hpl ?_
    exact pa_c (ck_plain h2) (okE HE a X sc E pa O h2).pe (pa_c (ck_plain h3) (okE HE b X sc E pb O h3).pe (pa_c (ck_plain h4) (okE HE d X sc E pd O h4).pe pa_n))
end
end
end Uk
end
section
set_option Elab.async false
set_option linter.all false
set_option maxRecDepth 100000
set_option autoImplicit false
set_option maxHeartbeats 1000000
namespace Uk
open PySem PySem.Spec PyProof.Rows L2
/-! ## Statements -/
def PostS (K : PySem.W.Frag) (mg : Str → Option Value) (E : XK) (r : List Addr) (H : Hp) (m : RS) (D : Ends) : Prop := match m with
  | .ok z g => match z with
    | (e', .nx) => ∀ r' σ' H', Ext r H r' H' → Rel K mg r' g H' → ER K r' H' e' σ' → D.nx σ' H'
    | (_, .rt d) => ∀ r' v H', Ext r H r' H' → Rel K mg r' g H' → VR K r' H' d v → D.rt v H'
  | .exc x g => ∀ r' H' cls dx, Ext r H r' H' → Rel K mg r' g H' → XR K mg r' H' x cls dx → E cls dx H'
  | .bad => False
theorem PostS.ext {K : PySem.W.Frag} {mg : Str → Option Value} {E : XK} {r r1 : List Addr} {H H1 : Hp} {m : RS} {D : Ends} (h : PostS K mg E r H m D) (x : Ext r H r1 H1) : PostS K mg E r1 H1 m D := by
  cases m with
  | ok z g =>
    obtain ⟨e', f⟩ := z
    cases f with
    | nx => exact fun r' σ' H' y R q => h r' σ' H' (x.trans y) R q
    | rt d => exact fun r' v H' y R q => h r' v H' (x.trans y) R q
  | exc e g => exact fun r' H' c d y R q => h r' H' c d (x.trans y) R q
  | bad => exact h
def LS (X : L2.Cx) (E : XK) (m : Env → G → RS) : TS := fun D σ H => ∃ (r : List Addr) (g : G) (e : Env), Rel X.K X.mg r g H ∧ ER X.K r H e σ ∧ PostS X.K X.mg E r H (m e g) D
/-- what a def's body stands in -/
structure XS (X : L2.Cx) (ck : Arguments → List Stmt → Scope → FDef → Bool) (c : Cx) (N : List String) (sc : Scope) (E : XK) : Prop where
  o : XOk X ck c N sc fun _ => E
  tg : TgOk X sc
  kf : sc.kind = .function
  po : PassesOwn (model X.prog X.w) X.A X.env X.xe
  tk : Takes X fun cls d _ H => E cls d H
  hs : X.stack = X.env :: X.outer
  hf : X.env.frame = some X.env.locals
section
variable {X : L2.Cx} {ck : Arguments → List Stmt → Scope → FDef → Bool} {c : Cx} {N : List String} {sc : Scope} {E : XK} {r : List Addr} {H : Hp} {g : G} {Dn : Ends} {σ : L2.St} {e : Env}
abbrev kE (E : XK) : L2.St → XK := fun _ => E
theorem LE.bindS {m : Env → G → Uk.R D} (R : Rel X.K X.mg r g H) (er : ER X.K r H e σ) {k : D → G → RS} (hp : PostS X.K X.mg E r H ((m e g).bind k) Dn) {Q' : VK}
    (next : ∀ (r1 : List Addr) (g1 : G) (H1 : Hp) (d : D) (v : V), Ext r H r1 H1 → Rel X.K X.mg r1 g1 H1 → ER X.K r1 H1 e σ → VR X.K r1 H1 d v → PostS X.K X.mg E r1 H1 (k d g1) Dn → Q' v H1) : LE X (kE E) m σ H Q' := by
  refine ⟨r, g, e, R, er, ?_⟩
  cases hm : m e g with
  | ok d g1 =>
    rw [hm] at hp
    have hp : PostS X.K X.mg E r H (k d g1) Dn := hp
    exact fun r' v H' x R' q => next r' g1 H' d v x R' (er.mono x) q (hp.ext x)
  | exc y g1 => rw [hm] at hp; exact hp
  | bad => rw [hm] at hp; exact hp.elim
theorem LT.bindS {m : Env → G → Uk.R D} (R : Rel X.K X.mg r g H) (er : ER X.K r H e σ) {k : D → G → RS} (hp : PostS X.K X.mg E r H ((m e g).bind k) Dn) {Q' : Bool → Hp → Prop} (hb : ∀ d g1, k d g1 ≠ .bad → ∃ b, d = .bl b)
    (next : ∀ (r1 : List Addr) (g1 : G) (H1 : Hp) (b : Bool), Ext r H r1 H1 → Rel X.K X.mg r1 g1 H1 → ER X.K r1 H1 e σ → PostS X.K X.mg E r1 H1 (k (.bl b) g1) Dn → Q' b H1) : LT X (kE E) m σ H Q' := by
  refine LE.bindS R er hp fun r1 g1 H1 d v x R1 er1 q hp => ?_
  have nb : k d g1 ≠ .bad := fun z => by rw [z] at hp; exact hp
  obtain ⟨b, rfl⟩ := hb d g1 nb
  exact ⟨b, q.bl_inv, next r1 g1 H1 b x R1 er1 hp⟩
theorem LI.bindS {m : Env → G → Uk.R (Nat × Wk)} (R : Rel X.K X.mg r g H) (er : ER X.K r H e σ) {k : Nat × Wk → G → RS} (hp : PostS X.K X.mg E r H ((m e g).bind k) Dn) {Rr : L2.It → Hp → Prop}
    (next : ∀ (r1 : List Addr) (g1 : G) (H1 : Hp) (w : Nat × Wk) (J : L2.It), Ext r H r1 H1 → Rel X.K X.mg r1 g1 H1 → ER X.K r1 H1 e σ → ItOk X.K X.mg r1 H1 J w.2 w.1 → PostS X.K X.mg E r1 H1 (k w g1) Dn → Rr J H1) : LI X (kE E) m σ H Rr := by
  refine ⟨r, g, e, R, er, ?_⟩
  cases hm : m e g with
  | ok d g1 =>
    rw [hm] at hp
    have hp : PostS X.K X.mg E r H (k d g1) Dn := hp
    exact fun r' H' J x R' q => next r' g1 H' d J x R' (er.mono x) q (hp.ext x)
  | exc y g1 => rw [hm] at hp; exact hp
  | bad => rw [hm] at hp; exact hp.elim
theorem PostS.nx {e' : Env} (h : PostS X.K X.mg E r H (.ok (e', .nx) g) Dn) (R : Rel X.K X.mg r g H) (er : ER X.K r H e' σ) : Dn.nx σ H := h r σ H (.refl _ _) R er
/-! ### name = e -/
/-- does the model take the road of a comprehension stored at once -/
def swB (sc : Scope) (p : PySem.Expr) (x : Str) (py : Pos) : Bool := match p with
  | .ListComp _ _ s pos => decide (sc.names.lookup x = some .local) && (py.line == pos.line) && !(s.names.any fun (n, k) => n == x && (k == .local || k == .cell))
  | _ => false
def isComp (p : PySem.Expr) : Bool := match p with
  | .ListComp _ _ _ _ => true
  | .SetComp _ _ _ _ => true
  | .DictComp _ _ _ _ _ => true
  | _ => false
theorem sw_plain {p : PySem.Expr} {t : Option PySem.Expr} {l : Nat} {env : PySem.Env} (h : isComp p = false) : swapsWith p t l env = pure false := by
  cases p <;> first | rfl | cases h
theorem sole_plain {p t : PySem.Expr} {l : Nat} {env : PySem.Env} (h : isComp p = false) : swapsWithSole [t] p l env = pure false := by
  cases p <;> first | rfl | cases h
theorem sw_att {p o : PySem.Expr} {f : Str} {pos : Pos} {l : Nat} {env : PySem.Env} : swapsWith p (some (.Attribute o f pos)) l env = pure false := by
  cases p <;> rfl
theorem sw_sub {p o i : PySem.Expr} {pos : Pos} {l : Nat} {env : PySem.Env} : swapsWithSole [.Subscript o i pos] p l env = pure false := by
  cases p <;> rfl
theorem sw_tup {p : PySem.Expr} {ts : List PySem.Expr} {k : Nat} {pos : Pos} {l : Nat} {env : PySem.Env} : swapsWithSole [.Tuple ts k pos] p l env = pure false := by
  cases p <;> rfl
theorem sw_false {p q : PySem.Expr} {gs : List Comprehension} {s : Scope} {pos py : Pos} {x : Str} {l : Nat} {env : PySem.Env} (hp : p = .ListComp q gs s pos) (hk : env.scope.kind = .function) (h : swB env.scope p x py = false) : swapsWith p (some (.Name x py)) l env = pure false := by
  subst hp
  have hb : env.blockKind = .function := by unfold Env.blockKind; rw [hk]; rfl
  have h : (decide (env.scope.names.lookup x = some .local) && (py.line == pos.line) && !(s.names.any fun (n, k) => n == x && (k == .local || k == .cell))) = false := h
  have e1 : (env.kindOf x == some NameKind.local) = decide (env.scope.names.lookup x = some .local) := by
    unfold Env.kindOf
    cases env.scope.names.lookup x with
    | none => rfl
    | some k => cases k <;> rfl
  unfold swapsWith
  simp only [hb, Expr.pos, e1]
  have e2 : (ScopeKind.function == ScopeKind.function) = true := rfl
  simp only [e2, Bool.true_and]
  rw [h]
theorem sw_true' {q : PySem.Expr} {gs : List Comprehension} {s : Scope} {pos py : Pos} {x : Str} {l : Nat} {env : PySem.Env} (hk : env.scope.kind = .function) (h : swB env.scope (.ListComp q gs s pos) x py = true) : env.scope.names.lookup x = some .local ∧ swapsWith (.ListComp q gs s pos) (some (.Name x py)) l env = pure true := by
  have h : (decide (env.scope.names.lookup x = some .local) && (py.line == pos.line) && !(s.names.any fun (n, k) => n == x && (k == .local || k == .cell))) = true := h
  simp only [Bool.and_eq_true, Bool.not_eq_true'] at h
  obtain ⟨⟨h1, h2⟩, h3⟩ := h
  have h1 := of_decide_eq_true h1
  exact ⟨h1, sw_true hk h1 h2 h3⟩
theorem asg_reads {i : Nat} {m : Env → G → Uk.R D} {σ : L2.St} {H : Hp} {Dn : Ends} (h : LS X E (fun e g => (m e g).bind fun x g => .ok (e.set i (some x), .nx) g) Dn σ H) : tAsg (LE X (kE E) m) (gName i) Dn σ H := by
  obtain ⟨r, g, e, R, er, hp⟩ := h
  exact LE.bindS R er hp fun r1 g1 H1 d v x R1 er1 q hp => PostS.nx hp R1 (er1.set i q)
theorem ok_asg (S : XS X ck c N sc E) {i : Nat} {x : Str} {py pos : Pos} {p : PySem.Expr} {m : Env → G → Uk.R D} (ht : tgB N sc i x = true) (hsw : swapsWith p (some (.Name x py)) pos.line X.env = pure false) (h : PE X p (LE X (kE E) m)) :
    PS X (.Assign [.Name x py] p pos) (LS X E fun e g => (m e g).bind fun x g => .ok (e.set i (some x), .nx) g) := by
  obtain ⟨h1, h2, h3⟩ := tgB_get S.o.nm S.tg ht
  exact ⟨fun pins s σ H Dn I q => (ps_set S.o.nd h1 h2 h hsw h3).run pins s σ H Dn I (asg_reads q)⟩
/-- name = [..] -/
theorem ok_asgC (S : XS X ck c N sc E) {i : Nat} {x : Str} {py spos : Pos} {pt pi p : PySem.Expr} {ifs : List PySem.Expr} {scope : Scope} {pos : Pos} {vs : List Nat} {tg : Tg} {mi : Env → G → Uk.R (Nat × Wk)} {mc me : Env → G → Uk.R D} (ht : tgB N sc i x = true)
    (hv : (ownOf N vs).map (·.2) = vs) (hb : blkC (N.map sS) sc scope (ownOf N vs) = true) (htg : ckT N scope tg pt = true) (hin : ∀ i ∈ tgIx tg, i ∈ vs) (hi : PI X pt pi (LI X (kE E) mi)) (hf : ∀ x, foldedSetIterable pi X.env x = pure x)
    (hc : ∀ (Y : L2.Cx), XOk Y ck c N (relS scope sc) E0' → PTs Y ifs (LT Y E0' mc)) (he : ∀ (Y : L2.Cx), XOk Y ck c N (relS scope sc) E0' → PE Y p (LE Y E0' me))
    (hyl : X.env.scope.names.lookup x = some .local) (hsw : swapsWith (.ListComp p [⟨pt, pi, ifs, 0⟩] scope pos) (some (.Name x py)) spos.line X.env = pure true) :
    PS X (.Assign [.Name x py] (.ListComp p [⟨pt, pi, ifs, 0⟩] scope pos) spos) (LS X E fun e g => (compD mi mc me tg vs e g).bind fun x g => .ok (e.set i (some x), .nx) g) := by
  obtain ⟨h1, h2, h3⟩ := tgB_get S.o.nm S.tg ht
  have ok : BlkOk X.N X.env.scope scope (ownOf N vs) := by
    rw [S.o.nm, S.o.sc]
    exact blkOk_by hb
  have P := ps_setLc (elt := p) (tg := pt) (iter := pi) (ifs := ifs) (pos := pos) (spos := spos) (py := py) (wi := LI X (kE E) mi) (g := GD X tg) (tt := LT X E0' mc) (te := LE X E0' me) S.o.calm S.o.nd h1 hyl hsw hi ok
    (fun s H C cl fp => pg_tg (X := X.blk s H scope (compEnvC scope cl C X.env) fp) S.o.calm S.o.nm S.o.nd (TgOk.blk S.o s H scope cl C fp) htg)
    (fun s H C cl fp => hc _ (S.o.blk s H scope cl C fp)) (fun s H C cl fp => he _ (S.o.blk s H scope cl C fp)) hf
  rw [hv] at P
  refine ⟨fun pins s σ H Dn I q => P.run pins s σ H Dn I ?_⟩
  obtain ⟨r, g, e, R, er, hp⟩ := asg_reads q
  exact lc_reads rfl rfl hin (fun _ _ _ _ h => h) (fun _ _ _ h => h) (fun _ _ _ h => h) R er hp
/-! ### o.f = e -/
theorem ok_fld (S : XS X ck c N sc E) {f : String} {p1 pos : Pos} {po p : PySem.Expr} {mo m : Env → G → Uk.R D} (ho : PE X po (LE X (kE E) mo)) (h : PE X p (LE X (kE E) m)) :
    PS X (.Assign [.Attribute po (sS f) p1] p pos) (LS X E fun e g => (m e g).bind fun x g => (mo e g).bind fun y g => (setFld c.P y f x g).bind fun _ g => .ok (e, .nx) g) := by
  refine ⟨fun pins s σ H Dn I ⟨r, g, e, R, er, hp⟩ => (ps_fld ho h sw_att).run pins s σ H Dn I (LE.bindS R er hp fun r1 g1 H1 d v x R1 er1 q hp => LE.bindS R1 er1 hp fun r2 g2 H2 y w x2 R2 er2 q2 hp => ?_)⟩
  cases y with
  | ref a =>
    obtain ⟨p, ep, rfl⟩ := q2.ref_inv
    obtain ⟨o, ho, oo⟩ := R2.get ep
    unfold setFld at hp
    dsimp only at hp
    rw [ho] at hp
    cases o with
    | ins k fs =>
      dsimp only at hp
      split at hp
      · rename_i hl
        obtain ⟨C, dx, ps, h0, h1, h2⟩ := oo
        obtain ⟨C2, hC2, ca⟩ := S.o.gf.cls k hl.2.1
        rw [h0] at hC2
        cases hC2
        refine ⟨p, C, dx, ps, rfl, h1, ca.cl, ca.fld f hl.2.2, by rw [← h2.length]; exact hl.1, ?_⟩
        have hp : PostS X.K X.mg E r2 H2 (.ok (e, .nx) (g2.set a (.ins k (Uk.putF f d fs)))) Dn := hp
        have ex : Ext r2 H2 r2 (upd H2 p (.ins C dx (L2.putF (sS f) v ps))) := .put h1 trivial
        refine hp r2 σ _ ex ?_ (er2.mono ex)
        exact R2.put ep h1 trivial ⟨C, dx, _, h0, upd_same, (putF_rel (VR.mono x2 _ _ q) h2).mono ex⟩
      · exact hp.elim
    | _ => exact hp.elim
  | _ => exact hp.elim
/-! ### o[i] = e -/
theorem asg_sub {o i : PySem.Expr} {pos : Pos} {env : PySem.Env} (h : plainP i = true) : ∀ v, assign (.Subscript o i pos) env v = (do
      let ov ← holding [v] (eval o env)
      let iv ← holding [v, ov] (eval i env)
      standAt pos
      holding [v, ov, iv] (setItem ov iv v)
      release [v, ov, iv] []) := by
  intro v
  cases i <;> first | rfl | exact absurd h Bool.false_ne_true
/-- a place of a list, or of a dict -/
def rSetD : V → V → V → Hp → (Hp → Prop) → Prop := fun o i v H Q => rSetL o i v H Q ∨ ∃ a H', o = .ref a ∧ DPut H a i v H' ∧ Q H'
theorem set_any {X : L2.Cx} (hu : X.A.units + 1 < cLine) : PSet X rSetD := by
  intro pins s σ H o i v ov iv u Q I ro ri rv h
  rcases h with h | ⟨a, H', rfl, g, q⟩
  · exact set_list pins s σ H o i v ov iv u Q I ro ri rv h
  · obtain rfl : ov = Value.ref a := ro
    exact d_setItem hu I g ri rv fun s' I' => ⟨H', I', q⟩
theorem ok_sub (S : XS X ck c N sc E) {p1 pos : Pos} {po pi p : PySem.Expr} {mo mi m : Env → G → Uk.R D} (hpl : plainP pi = true) (ho : PE X po (LE X (kE E) mo)) (hi : PE X pi (LE X (kE E) mi)) (h : PE X p (LE X (kE E) m)) :
    PS X (.Assign [.Subscript po pi p1] p pos) (LS X E fun e g => (m e g).bind fun x g => (mo e g).bind fun y g => (mi e g).bind fun z g => (setSub y z x g).bind fun _ g => .ok (e, .nx) g) := by
  refine ⟨fun pins s σ H Dn I ⟨r, g, e, R, er, hp⟩ => (ps_asg h (pg_sub ho hi (set_any (by have := S.o.units; omega)) (asg_sub hpl)) sw_sub).run pins s σ H Dn I (LE.bindS R er hp fun r1 g1 H1 d v x R1 er1 q hp => LE.bindS R1 er1 hp fun r2 g2 H2 y w x2 R2 er2 q2 hp => LE.bindS R2 er2 hp fun r3 g3 H3 z u x3 R3 er3 q3 hp => ?_)⟩
  have q2 := VR.mono x3 _ _ q2
  cases y with
  | ref a =>
    obtain ⟨p, ep, rfl⟩ := q2.ref_inv
    obtain ⟨o, ho, oo⟩ := R3.get ep
    unfold setSub at hp
    dsimp only at hp
    rw [ho] at hp
    cases o with
    | lst xs =>
      cases z with
      | int k =>
        dsimp only at hp
        cases hj : sIx xs.length k with
        | none => rw [hj] at hp; exact hp.elim
        | some j =>
          rw [hj] at hp
          obtain ⟨vs, h1, h2⟩ := oo
          have ex : Ext r3 H3 r3 (upd H3 p (.lst (vs.set j v))) := .put h1 trivial
          refine .inl ⟨p, vs, k, j, rfl, q3.int_inv, h1, by rw [h2.length]; exact hj, ?_⟩
          have hp : PostS X.K X.mg E r3 H3 (.ok (e, .nx) (g3.set a (.lst (xs.set j d)))) Dn := hp
          refine hp r3 σ _ ex ?_ (er3.mono ex)
          exact R3.put ep h1 trivial (lst_put (xs := xs) h1 (h2.set j (VR.mono (x2.trans x3) _ _ q)))
      | _ => exact hp.elim
    | dK kvs =>
      have hk : ∃ kk, keyOf z = some kk ∧ kvs.length < line ∧ PostS X.K X.mg E r3 H3 (.ok (e, .nx) (g3.set a (.dK (putD z d kvs)))) Dn := by
        cases z <;> first
          | exact hp.elim
          | (dsimp only at hp
             split at hp
             · exact ⟨_, rfl, by assumption, hp⟩
             · exact hp.elim)
      obtain ⟨kk, hk, hl, hp⟩ := hk
      obtain ⟨ps, h1, h2⟩ := oo
      have ev := key_val hk q3
      subst ev
      have ex : Ext r3 H3 r3 (upd H3 p (.dK (L2.putK ps kk v))) := .put h1 trivial
      refine .inr ⟨p, _, rfl, DPut.k h1 (by rw [← h2.length, ← line_eq]; exact hl), ?_⟩
      refine hp r3 σ _ ex ?_ (er3.mono ex)
      exact R3.put ep h1 trivial ⟨_, upd_same, (h2.put hk (VR.mono (x2.trans x3) _ _ q)).mono ex⟩
    | dT _ => exact oo.elim
    | ins _ _ => cases z <;> exact hp.elim
  | _ => cases z <;> exact hp.elim
/-! ### a, b = e -/
def isTup (p : PySem.Expr) : Bool := match p with
  | .Tuple _ _ _ => true
  | _ => false
theorem sw_stores {ps : List PySem.Expr} {k : Nat} {tpos : Pos} {p : PySem.Expr} {env : PySem.Env} (h : isTup p = false) : swappedStores [.Tuple ps k tpos] p env = pure none := by
  cases p <;> first | rfl | cases h
theorem ok_unp (S : XS X ck c N sc E) {l : List Nat} {ps : List PySem.Expr} {k : Nat} {tpos pos : Pos} {p : PySem.Expr} {m : Env → G → Uk.R D} (ht : ckTs N sc l ps = true) (hst : isTup p = false) (h : PE X p (LE X (kE E) m)) :
    PS X (.Assign [.Tuple ps k tpos] p pos) (LS X E fun e g => (m e g).bind fun x g => match x with
    | .tup ds => match setAll e l ds with
      | some δ => .ok (δ, .nx) g
      | none => .bad
    | _ => .bad) := by
  have G1 := pg_tg (t := .many l) (p := .Tuple ps k tpos) S.o.calm S.o.nm S.o.nd S.tg ht
  refine ⟨fun pins s σ H Dn I ⟨r, g, e, R, er, hp⟩ => (ps_asg h G1 sw_tup (sw_stores hst)).run pins s σ H Dn I (LE.bindS R er hp fun r1 g1 H1 d v x R1 er1 q hp => ?_)⟩
  cases d with
  | tup ds =>
    dsimp only at hp
    cases hz : setAll e l ds with
    | none => rw [hz] at hp; exact hp.elim
    | some e' =>
      rw [hz] at hp
      exact ⟨r1, g1, .tup ds, e, e', R1, er1, q, hz, fun us hl er2 => PostS.nx hp R1 er2⟩
  | _ => exact hp.elim
/-! ### a, b = x, y -/
def parB (sc : Scope) (x y : Str) (px py : Pos) (pa pb : PySem.Expr) : Bool := decide (sc.names.lookup x = some .local) && decide (sc.names.lookup y = some .local) && (py.line == px.line) && !(x == y) && !(foldedForSure 8 pa && foldedForSure 8 pb) && !(constantsAlone 8 pa && constantsAlone 8 pb) && plainP pa && plainP pb
theorem sw_par {env : PySem.Env} {x y : Str} {px py pt pt2 : Pos} {k k2 : Nat} {pa pb : PySem.Expr} (hk : env.scope.kind = .function) (h : parB env.scope x y px py pa pb = true) : swappedStores [.Tuple [.Name x px, .Name y py] k pt] (.Tuple [pa, pb] k2 pt2) env = pure (some [x, y]) := by
  unfold parB at h
  simp only [Bool.and_eq_true, Bool.not_eq_true'] at h
  obtain ⟨⟨⟨⟨⟨⟨⟨h1, h2⟩, h3⟩, h4⟩, h5⟩, h6⟩, h7⟩, h8⟩ := h
  have hb : env.blockKind = .function := by unfold Env.blockKind; rw [hk]; rfl
  have k1 : env.kindOf x = some .local := of_decide_eq_true h1
  have k2 : env.kindOf y = some .local := of_decide_eq_true h2
  have s1 : ∀ {p : PySem.Expr}, plainP p = true → (match p with | .Starred _ _ => true | _ => false) = false := fun {p} hp => by
    cases p <;> first | rfl | cases hp
  unfold swappedStores
  have l1 : (env.kindOf x == some NameKind.local) = true := by rw [k1]; rfl
  have l2 : (env.kindOf y == some NameKind.local) = true := by rw [k2]; rfl
  have n2 : ([x, y] : List Str).eraseDups = [x, y] := by
    have h4' : (y == x) = false := by
      have : x ≠ y := by simpa using h4
      simpa using Ne.symm this
    simp [List.eraseDups_cons, h4']
  have u1 : (px.line == px.line) = true := by simp
  simp only [List.length_cons, List.length_nil, hb, List.any_cons, List.any_nil]
  rw [if_neg (by decide), if_neg (fun hh => by
    rw [Bool.or_eq_true, Bool.or_eq_true] at hh
    rcases hh with hh | hh | hh
    · cases pa <;> first | exact absurd hh Bool.false_ne_true | cases h7
    · cases pb <;> first | exact absurd hh Bool.false_ne_true | cases h8
    · exact absurd hh Bool.false_ne_true)]
  simp only [List.filterMap_cons, List.filterMap_nil, l1, l2, List.head?_cons, Option.map_some, Option.getD_some, PySem.Expr.pos, h3, u1, Bool.and_self, if_true, n2, List.all_cons, List.all_nil, Bool.and_true, h5, h6, List.length_cons, List.length_nil]
  rfl
theorem ok_par (S : XS X ck c N sc E) {i j : Nat} {x y : Str} {px py pt pt2 pos : Pos} {k k2 : Nat} {pa pb : PySem.Expr} {ma mb : Env → G → Uk.R D} (hi : ckN N i x = true) (hj : ckN N j y = true) (hij : i ≠ j) (hb : parB sc x y px py pa pb = true) (ha : PE X pa (LE X (kE E) ma)) (hb2 : PE X pb (LE X (kE E) mb)) :
    PS X (.Assign [.Tuple [.Name x px, .Name y py] k pt] (.Tuple [pa, pb] k2 pt2) pos) (LS X E fun e g => (ma e g).bind fun x g => (mb e g).bind fun y g => .ok ((e.set i (some x)).set j (some y), .nx) g) := by
  have get : ∀ {i : Nat} {x : Str}, ckN N i x = true → X.N[i]? = some x := fun {i x} h => by
    unfold ckN at h
    split at h
    · rename_i s hs
      rw [S.o.nm, List.getElem?_map, hs, ← of_decide_eq_true h]
      rfl
    · cases h
  have hb' : parB X.env.scope x y px py pa pb = true := by rw [S.o.sc]; exact hb
  have hs := sw_par (pt := pt) (pt2 := pt2) (k := k) (k2 := k2) (by rw [S.o.sc]; exact S.kf) hb'
  unfold parB at hb'
  simp only [Bool.and_eq_true, Bool.not_eq_true'] at hb'
  obtain ⟨⟨⟨⟨⟨⟨⟨h1, h2⟩, _⟩, _⟩, _⟩, _⟩, h7⟩, h8⟩ := hb'
  have A2 := pa_cons ha (pa_cons hb2 pa_nil (star_plain h8)) (star_plain h7)
  refine ⟨fun pins s σ H Dn I ⟨r, g, e, R, er, hp⟩ => (ps_par (kt := k) (k2 := k2) S.o.calm S.o.nd (get hi) (get hj) hij (of_decide_eq_true h1) (of_decide_eq_true h2) A2 hs rfl).run pins s σ H Dn I ?_⟩
  refine LE.bindS R er hp fun r1 g1 H1 d v x1 R1 er1 q1 hp => LE.bindS R1 er1 hp fun r2 g2 H2 y w x2 R2 er2 q2 hp => ?_
  exact ⟨v, w, rfl, PostS.nx hp R2 ((er2.set i (VR.mono x2 _ _ q1)).set j q2)⟩
/-! ### if, return, .. -/
theorem ok_if {pt : PySem.Expr} {A B : List Stmt} {pos : Pos} {mt : Env → G → Uk.R D} {ma mb : Env → G → RS} (ht : PT X pt (LT X (kE E) mt)) (ha : PSs X A (LS X E ma)) (hb : PSs X B (LS X E mb)) : PS X (.If pt A B pos) (LS X E fun e g => (mt e g).bind fun x g => match x with
    | .bl true => ma e g
    | .bl false => mb e g
    | _ => .bad) := by
  refine ⟨fun pins s σ H Dn I ⟨r, g, e, R, er, hp⟩ => (ps_if ht ha hb).run pins s σ H Dn I (LT.bindS R er hp (fun d g1 hk => ?_) fun r1 g1 H1 b x R1 er1 hp => ?_)⟩
  · cases d with
    | bl b => exact ⟨b, rfl⟩
    | _ => exact absurd rfl hk
  · cases b with
    | true => exact ⟨r1, g1, e, R1, er1, hp⟩
    | false => exact ⟨r1, g1, e, R1, er1, hp⟩
theorem ok_ret {p : PySem.Expr} {pos : Pos} {m : Env → G → Uk.R D} (h : PE X p (LE X (kE E) m)) : PS X (.Return (some p) pos) (LS X E fun e g => (m e g).bind fun x g => .ok (e, .rt x) g) :=
  ⟨fun pins s σ H Dn I ⟨r, g, e, R, er, hp⟩ => (ps_ret h).run pins s σ H Dn I (LE.bindS R er hp fun r1 g1 H1 d v x R1 er1 q hp => hp r1 v H1 (.refl _ _) R1 q)⟩
theorem ok_retN {pos : Pos} : PS X (.Return none pos) (LS X E fun e g => .ok (e, .rt .non) g) := ⟨fun pins s σ H Dn I ⟨r, g, e, R, er, hp⟩ => ps_retN.run pins s σ H Dn I (hp r .non H (.refl _ _) R .non)⟩
theorem ok_ex {p : PySem.Expr} {pos : Pos} {m : Env → G → Uk.R D} (hsw : isComp p = false) (h : PE X p (LE X (kE E) m)) : PS X (.Expr p pos) (LS X E fun e g => (m e g).bind fun _ g => .ok (e, .nx) g) :=
  ⟨fun pins s σ H Dn I ⟨r, g, e, R, er, hp⟩ => (ps_expr h (sw_plain hsw)).run pins s σ H Dn I (LE.bindS R er hp fun r1 g1 H1 d v x R1 er1 q hp => PostS.nx hp R1 er1)⟩
theorem ok_pass {pos : Pos} : PS X (.Pass pos) (LS X E fun e g => .ok (e, .nx) g) := ⟨fun pins s σ H Dn I ⟨r, g, e, R, er, hp⟩ => ps_pass.run pins s σ H Dn I (PostS.nx hp R er)⟩
/-! ### suites -/
theorem oks_nil : PSs X [] (LS X E fun e g => .ok (e, .nx) g) := ⟨fun pins s σ H Dn I ⟨r, g, e, R, er, hp⟩ => pss_nil.run pins s σ H Dn I (PostS.nx hp R er)⟩
def seqS (m1 m2 : Env → G → RS) (e : Env) (g : G) : RS := (m1 e g).bind fun z g => match z with
    | (δ, .nx) => m2 δ g
    | z => .ok z g
theorem oks_cons {st : Stmt} {rest : List Stmt} {m1 m2 : Env → G → RS} (h1 : PS X st (LS X E m1)) (h2 : PSs X rest (LS X E m2)) : PSs X (st :: rest) (LS X E (seqS m1 m2)) := by
  refine ⟨fun pins s σ H Dn I ⟨r, g, e, R, er, hp⟩ => (pss_cons h1 h2).run pins s σ H Dn I ⟨r, g, e, R, er, ?_⟩⟩
  unfold seqS at hp
  cases hm : m1 e g with
  | bad => rw [hm] at hp; exact hp.elim
  | exc x g1 => rw [hm] at hp; exact hp
  | ok z g1 =>
    rw [hm] at hp
    obtain ⟨e', f⟩ := z
    cases f with
    | nx =>
      have hp : PostS X.K X.mg E r H (m2 e' g1) Dn := hp
      exact fun r' σ' H' x R' er' => ⟨r', g1, e', R', er', hp.ext x⟩
    | rt d =>
      have hp : PostS X.K X.mg E r H (.ok (e', .rt d) g1) Dn := hp
      exact fun r' v H' x R' q => hp r' v H' x R' q
/-! ### loops -/
theorem ok_for (S : XS X ck c N sc E) {t : Tg} {pt pi : PySem.Expr} {body : List Stmt} {pos : Pos} {mi : Env → G → Uk.R (Nat × Wk)} {mb : Env → G → RS} (ht : ckT N sc t pt = true) (hi : PI X pt pi (LI X (kE E) mi)) (hf : ∀ x, foldedSetIterable pi X.env x = pure x) (hb : PSs X body (LS X E mb)) :
    PS X (.For pt pi body [] pos) (LS X E fun e g => (mi e g).bind fun w g => forL w.2 w.1 t mb w.1 0 e g) := by
  have G1 := pg_tg S.o.calm S.o.nm S.o.nd S.tg ht
  refine ⟨fun pins s σ H Dn I ⟨r, g, e, R, er, hp⟩ => (ps_for S.po S.o.calm hi G1 hb hf).run pins s σ H Dn I (LI.bindS R er hp fun r1 g1 H1 w J x R1 er1 io hp => ?_)⟩
  refine ⟨fun i m σ H => ∃ (r2 : List Addr) (g2 : G) (e2 : Env), Ext r1 H1 r2 H ∧ Rel X.K X.mg r2 g2 H ∧ ER X.K r2 H e2 σ ∧ PostS X.K X.mg E r2 H (forL w.2 w.1 t mb m i e2 g2) Dn, ⟨w.1, r1, g1, e, .refl _ _, R1, er1, hp⟩, ?_⟩
  rintro i m σ H ⟨r2, g2, e2, x2, R2, er2, hp2⟩
  cases m with
  | zero =>
    unfold forL at hp2
    split at hp2
    · rename_i hit
      exact .inl ⟨io.stop i r2 g2 H x2 R2 hit, PostS.nx hp2 R2 er2⟩
    · exact hp2.elim
  | succ m =>
    unfold forL at hp2
    split at hp2
    · rename_i d hit
      obtain ⟨go, yl⟩ := io.go i r2 g2 H d x2 R2 hit
      refine .inr ⟨go, fun σ' H' => ∃ (r2 : List Addr) (g2 : G) (e2 : Env), Ext r1 H1 r2 H' ∧ Rel X.K X.mg r2 g2 H' ∧ ER X.K r2 H' e2 σ' ∧ PostS X.K X.mg E r2 H' (forL w.2 w.1 t mb m (i + 1) e2 g2) Dn, fun σ' H' h => ⟨m, Nat.lt_succ_self m, h⟩, fun v H' hy => ?_⟩
      obtain ⟨x3, R3, q3⟩ := yl v H' hy
      cases hbd : bindT t d e2 with
      | none => rw [hbd] at hp2; exact hp2.elim
      | some e3 =>
        rw [hbd] at hp2
        refine ⟨r2, g2, d, e2, e3, R3, er2.mono x3, q3, hbd, fun us hl er4 => ⟨r2, g2, e3, R3, er4, ?_⟩⟩
        have hp2 : PostS X.K X.mg E r2 H ((mb e3 g2).bind _) Dn := hp2
        cases hm : mb e3 g2 with
        | bad => rw [hm] at hp2; exact hp2.elim
        | exc y g4 =>
          rw [hm] at hp2
          exact fun r' H' c d y R q => hp2 r' H' c d (x3.trans y) R q
        | ok z g4 =>
          rw [hm] at hp2
          obtain ⟨e4, f⟩ := z
          cases f with
          | nx =>
            have hp2 : PostS X.K X.mg E r2 H (forL w.2 w.1 t mb m (i + 1) e4 g4) Dn := hp2
            exact fun r' σ' H' y R' er' => ⟨r', g4, e4, x2.trans (x3.trans y), R', er', hp2.ext (x3.trans y)⟩
          | rt d4 =>
            have hp2 : PostS X.K X.mg E r2 H (.ok (e4, .rt d4) g4) Dn := hp2
            exact fun r' v H' y R' q => hp2 r' v H' (x3.trans y) R' q
    · exact hp2.elim
theorem ok_while (S : XS X ck c N sc E) {pt : PySem.Expr} {body : List Stmt} {pos : Pos} {mt : Env → G → Uk.R D} {mb : Env → G → RS} (ht : PT X pt (LT X (kE E) mt)) (hb : PSs X body (LS X E mb)) : PS X (.While pt body [] pos) (LS X E fun e g => whileL mt mb most e g) := by
  refine ⟨fun pins s σ H Dn I ⟨r, g, e, R, er, hp⟩ => (ps_while S.po ht hb).run pins s σ H Dn I ?_⟩
  refine ⟨fun m σ H => ∃ (r2 : List Addr) (g2 : G) (e2 : Env), Rel X.K X.mg r2 g2 H ∧ ER X.K r2 H e2 σ ∧ PostS X.K X.mg E r2 H (whileL mt mb m e2 g2) Dn, ⟨most, r, g, e, R, er, hp⟩, ?_⟩
  rintro m σ H ⟨r2, g2, e2, R2, er2, hp2⟩
  cases m with
  | zero => exact hp2.elim
  | succ m =>
    unfold whileL at hp2
    refine LT.bindS R2 er2 hp2 (fun d g1 hk => ?_) fun r3 g3 H3 b x3 R3 er3 hp3 => ?_
    · cases d with
      | bl b => exact ⟨b, rfl⟩
      | _ => exact absurd rfl hk
    · cases b with
      | false =>
        rw [if_neg (by simp)]
        exact PostS.nx hp3 R3 er3
      | true =>
        rw [if_pos rfl]
        refine ⟨fun σ' H' => ∃ (r2 : List Addr) (g2 : G) (e2 : Env), Rel X.K X.mg r2 g2 H' ∧ ER X.K r2 H' e2 σ' ∧ PostS X.K X.mg E r2 H' (whileL mt mb m e2 g2) Dn, fun σ' H' h => ⟨m, Nat.lt_succ_self m, h⟩, r3, g3, e2, R3, er3, ?_⟩
        have hp3 : PostS X.K X.mg E r3 H3 ((mb e2 g3).bind _) Dn := hp3
        cases hm : mb e2 g3 with
        | bad => rw [hm] at hp3; exact hp3.elim
        | exc y g4 => rw [hm] at hp3; exact hp3
        | ok z g4 =>
          rw [hm] at hp3
          obtain ⟨e4, f⟩ := z
          cases f with
          | nx =>
            have hp3 : PostS X.K X.mg E r3 H3 (whileL mt mb m e4 g4) Dn := hp3
            exact fun r' σ' H' y R' er' => ⟨r', g4, e4, R', er', hp3.ext y⟩
          | rt d4 =>
            have hp3 : PostS X.K X.mg E r3 H3 (.ok (e4, .rt d4) g4) Dn := hp3
            exact fun r' v H' y R' q => hp3 r' v H' y R' q
end
end Uk
end
section
set_option Elab.async false
set_option linter.all false
set_option maxRecDepth 100000
set_option autoImplicit false
set_option maxHeartbeats 2000000
namespace Uk
open PySem PySem.Spec PyProof.Rows L2
theorem str_beq_false {a b : String} (h : a ≠ b) : (sS a == sS b) = false := by
  rw [beq_eq_false_iff_ne]
  exact fun z => h (sS_inj z)
theorem relO_fld {f : String} {v : V} {v' : Value} (r : RelV v v') (y : Str) : RelO (List.lookup y [(sS f, v)]) (if y = sS f then some v' else none) := by
  by_cases hw : y = sS f
  · rw [if_pos hw, hw]
    have q : List.lookup (sS f) [(sS f, v)] = some v := by simp [List.lookup]
    rw [q]
    exact r
  · rw [if_neg hw]
    have qw : (y == sS f) = false := by simpa using hw
    have q2 : List.lookup y [(sS f, v)] = none := by simp [List.lookup, qw]
    rw [q2]
    trivial
section
variable {X : L2.Cx} {ck : Arguments → List Stmt → Scope → FDef → Bool} {c : Cx} {N : List String} {sc : Scope} {E : XK} {r : List Addr} {H : Hp} {g : G} {Dn : Ends} {σ : L2.St} {e : Env}
theorem LA.bindS {m : Env → G → Uk.R (List D)} (R : Rel X.K X.mg r g H) (er : ER X.K r H e σ) {k : List D → G → RS} (hp : PostS X.K X.mg E r H ((m e g).bind k) Dn) {Q' : List V → Hp → Prop}
    (next : ∀ (r1 : List Addr) (g1 : G) (H1 : Hp) (d : List D) (v : List V), Ext r H r1 H1 → Rel X.K X.mg r1 g1 H1 → ER X.K r1 H1 e σ → VRs X.K r1 H1 d v → PostS X.K X.mg E r1 H1 (k d g1) Dn → Q' v H1) : LA X (kE E) m σ H Q' := by
  refine ⟨r, g, e, R, er, ?_⟩
  cases hm : m e g with
  | ok d g1 =>
    rw [hm] at hp
    have hp : PostS X.K X.mg E r H (k d g1) Dn := hp
    exact fun r' v H' x R' q => next r' g1 H' d v x R' (er.mono x) q (hp.ext x)
  | exc y g1 => rw [hm] at hp; exact hp
  | bad => rw [hm] at hp; exact hp.elim
/-- C(x), C an error with the field f -/
theorem pmk_ex {C fI : Addr} {k f : String} {a : PySem.Expr} {ta : TA} {p pos : Pos} {n : Nat} (FN : FldN f) (T : ExT X.K C fI f) (gC : X.mg (sS k) = some (.ref C)) (hr : Room n X.A) (ha : PA X [a] ta) (hg : Gl X (sS k)) (hd : (sS k == ("__debug__" : Str)) = false)
    (he : starEach (a :: []) X.env = (false, eval a X.env) :: starEach [] X.env) :
    PMk X (.Call (.Name (sS k) p) [a] [] pos) (fun σ H Q => ta σ H fun vs H1 => ∃ v, vs = [v] ∧ ∀ d, H1 d = none → Q (.ref C) (some d) (upd H1 d (.xd [(sS f, v)]))) := by
  intro pins s σ H Q I h
  refine wpAny_Call_Name_kw (ld_glob I hg gC ?_ hd)
  refine PySem.W.callWith_K (h₀ := X.base) I.ok.mod.kin T.kC (thn (ha.run pos pins s σ H _ I h) fun us s1 hh => ?_) he rfl
  obtain ⟨vs, H1, I1, r1, v, ev, q1⟩ := hh
  subst ev
  refine ⟨I1.kIn, ?_⟩
  cases r1 with
  | cons rv rn =>
    rename_i v' us'
    cases rn
    show wpAny _ _ (PySem.call (.ref C) [v']) _ _ _
    have hlim := I1.nolimit
    obtain ⟨hp, g, dr, tk, os⟩ := s1
    refine wpAny_call (ex_made FN T I1.kIn hlim (by have := hr.dp; omega) fun h' tk' e d M => ?_)
    show MkP X pins σ Q (.ref e) ⟨h', g, dr, tk', os⟩
    obtain ⟨oe, fv, hoe, hc, hd, hdat, h1⟩ := M.obj
    have hns := M.ns
    obtain ⟨G', g1, g2⟩ := restrict h' fun b => decide (b ≠ e)
    have gk : ∀ b, b ≠ e → G'.get? b = h'.get? b := fun b hb => g1 b (decide_eq_true hb)
    have ge : G'.get? e = none := g2 e (by simp)
    have old : ∀ b o, hp.get? b = some o → G'.get? b = some o := fun b o q => (gk b (Nat.ne_of_lt (Nat.lt_of_lt_of_le (Heap.lt_size q) M.new))).trans (M.keep b o q)
    have ob : ObjOk X.prog X.w (upd H1 d (.xd [(sS f, v)])) G' d (.xd [(sS f, v)]) :=
      ⟨_, hns.at (fun o q => (gk d M.dne).trans q), fun y => relO_fld rv y⟩
    have J : Inv X pins σ (upd H1 d (.xd [(sS f, v)])) ⟨G', g, dr, tk', os⟩ := I1.laid (t' := tk') old M.dbig ob
    refine ⟨e, oe, fv, ⟨G', g, dr, tk', os⟩, _, .ref C, some d, rfl, J, fun b o q => ?_, ge, hoe, ⟨hc, hd⟩, hdat, h1, ?_, rfl, I1.bare, raises_own T.exC T.tyC, q1 d (I1.hok.fresh M.dbig)⟩
    · by_cases hb : b = e
      · have q' : G'.get? b = some o := q
        rw [hb, ge] at q'; cases q'
      · exact (gk b hb).symm.trans q
    · rw [upd_ne (Ne.symm M.dne)]
      exact I1.hok.fresh M.new
/-- raise C(x) -/
theorem ok_rai (S : XS X ck c N sc E) {k f : String} {a : PySem.Expr} {p pos pos2 : Pos} {m : Env → G → Uk.R (List D)} (hk : c.P.exn k = some (some f)) (hg : glB sc (sS k) = true) (hpl : plainP a = true) (ha : PA X [a] (LA X (kE E) m)) :
    PS X (.Raise (some (.Call (.Name (sS k) p) [a] [] pos)) none pos2) (LS X E fun e g => (m e g).bind fun ds g => match c.P.exn k, ds with
    | some none, [] => .exc ⟨k, []⟩ g
    | some (some f), [d] => .exc ⟨k, [(f, d)]⟩ g
    | _, _ => .bad) := by
  obtain ⟨C, fI, gC, T, FN⟩ := S.o.gf.exn k f hk
  obtain ⟨gl, nd, nn⟩ := pe_callD.gl_of S.o hg
  obtain ⟨n, hr, _⟩ := S.o.room
  refine ⟨fun pins s σ H Dn I ⟨r, g, e, R, er, hp⟩ => (ps_raise S.o.calm S.tk (pmk_ex (p := p) (pos := pos) FN T gC hr ha gl nd (star_plain hpl))).run pins s σ H Dn I ?_⟩
  refine LA.bindS R er hp fun r' g1 H' ds vs x R' er' q hp => ?_
  rw [hk] at hp
  match ds, hp, q with
  | [], hp, _ => exact hp.elim
  | _ :: _ :: _, hp, _ => exact hp.elim
  | [d], hp, q =>
    obtain ⟨v, rfl, q1⟩ := q.one
    refine ⟨v, rfl, fun dd hdd => ?_⟩
    have hp : PostS X.K X.mg E r' H' (.exc ⟨k, [(f, d)]⟩ g1) Dn := hp
    have ex : Ext r' H' r' (upd H' dd (.xd [(sS f, v)])) := .new hdd
    exact hp r' _ _ _ ex (R'.beside hdd) ⟨C, gC, rfl, dd, _, rfl, upd_same, .cons ⟨rfl, VR.mono ex _ _ q1⟩ .nil⟩
/-! ## try -/
/-- the reading of a handler's expression: the exception x stands at a, its dict at dx; the name's slot is j -/
def LH (X : L2.Cx) (j : Nat) (a : Addr) (cls : Value) (dx : Option Addr) (m : Exn → G → Uk.R D) : TE := fun σ H Q => ∃ (r : List Addr) (g : G) (x : Exn), Rel X.K X.mg r g H ∧ XR X.K X.mg r H x cls dx ∧ σ[j]? = some (some (.ref a)) ∧ Post X.K X.mg (fun _ _ _ => False) r H (m x g) Q
theorem pe_exf {C fI : Addr} {k f : String} {a : Addr} {oe : Obj} {cls : Value} {d : Option Addr} {pn : List (Addr × Obj)} {n : Str} {p1 pos : Pos} {j : Nat} (T : ExT X.K C fI f) (gC : X.mg (sS k) = some (.ref C)) (hz : Zc cls d oe) (hf : ∃ vs, oe.data = .fields vs)
    (hj : X.N[j]? = some n) (hv : Vis X.env.scope n) (hd1 : (n == ("__debug__" : Str)) = false) (hd2 : (n == ("__classdict__" : Str)) = false) :
    PE (X.suite a ((a, oe) :: pn)) (.Attribute (.Name n p1) (sS f) pos) (LH X j a cls d fun x g => if x.cls = k then orElse (lookF f x.fs) fun v => .ok v g else .bad) := by
  refine ⟨fun pins s σ H Q I ⟨r, g, x, R, xr, hs, hp⟩ => ?_⟩
  have he : PE (X.suite a ((a, oe) :: pn)) (.Name n p1) (tVar j) := pe_var (X := X.suite a ((a, oe) :: pn)) hj hv hd1 hd2
  refine attr_of (base_plain rfl) (thn (he.run pins s σ H (fun v H1 => v = .ref a ∧ H1 = H) I ⟨.ref a, hs, rfl, rfl⟩) fun u s1 hh => ?_)
  obtain ⟨v0, H1, I1, rx, ev, eH⟩ := hh
  subst ev eH
  obtain rfl : u = Value.ref a := rx
  dsimp only at hp
  split at hp
  · rename_i hx
    obtain ⟨C2, g2, ec, hfs⟩ := xr
    rw [hx, gC] at g2
    cases g2
    subst ec
    cases hl : lookF f x.fs with
    | none => rw [hl] at hp; exact hp.elim
    | some dv =>
      rw [hl] at hp
      have hp : Post X.K X.mg (fun _ _ _ => False) r H1 (.ok dv g) Q := hp
      have hfs2 : ∃ dd ps, d = some dd ∧ H1 dd = some (.xd ps) ∧ FRs X.K r H1 x.fs ps := by
        cases hxf : x.fs with
        | nil => rw [hxf] at hl; cases hl
        | cons y ys => rw [hxf] at hfs; exact hfs
      obtain ⟨dd, ps, ed, ea, fr⟩ := hfs2
      subst ed
      have hlk := lookF_rel (f := f) fr
      rw [hl] at hlk
      obtain ⟨v, hv1, hv2⟩ := hlk
      obtain ⟨ha, _⟩ := I1.pin (a, oe) (List.mem_append_left _ List.mem_cons_self)
      obtain ⟨vs, hd⟩ := hf
      have hx : ObjOk X.prog X.w H1 s1.heap dd (.xd ps) := I1.hok dd _ ea
      obtain ⟨mA, hns, hr⟩ := hx
      obtain ⟨od, ho, hlo⟩ := lookIn_ns hns
      obtain ⟨u, hu, ru⟩ := RelO.some_of (v := v) (o := mA (sS f)) (by rw [← hv1]; exact hr (sS f))
      have J : PySem.W.InstAt s1.heap a oe C (some od) := ⟨ha, hz.1, by unfold PySem.W.notCls; rw [hd] <;> rfl, by rw [hz.2]; exact ho⟩
      exact HandSPX.exc_get I1.kIn J T.ga T.gg T.exC (PySem.W.findObj_own T.hdC T.noN rfl (by rw [hlo, hu])) (handed_of ru) ⟨v, H1, I1.tok _, ru, hp.here R hv2⟩
  · exact hp.elim
/-! ### what a handler computes: constants, fields of the error, lists of them -/
def LHA (X : L2.Cx) (j : Nat) (a : Addr) (cls : Value) (dx : Option Addr) (m : Exn → G → Uk.R (List D)) : TA := fun σ H Q => ∃ (r : List Addr) (g : G) (x : Exn), Rel X.K X.mg r g H ∧ XR X.K X.mg r H x cls dx ∧ σ[j]? = some (some (.ref a)) ∧ PostA X.K X.mg (fun _ _ _ => False) r H (m x g) Q
theorem XR.mono {K : PySem.W.Frag} {mg : Str → Option Value} {r r1 : List Addr} {H H1 : Hp} {x : Exn} {cls : Value} {d : Option Addr} (h : XR K mg r H x cls d) (y : Ext r H r1 H1) : XR K mg r1 H1 x cls d := by
  obtain ⟨C, h1, h2, h3⟩ := h
  refine ⟨C, h1, h2, ?_⟩
  cases hx : x.fs with
  | nil => rw [hx] at h3; exact h3
  | cons q qs =>
    rw [hx] at h3
    obtain ⟨a, ps, e1, e2, e3⟩ := h3
    exact ⟨a, ps, e1, y.kept.2.2 _ _ e2, e3.mono y⟩
end
/-- a handler's expression: does it read as p; n: the error's name, f: its field -/
def hdE (n : Str) (f : String) : Uk.E → PySem.Expr → Bool
  | .cst d, .Constant k _ _ => ckC d k
  | .exf f', .Attribute (.Name x _) y _ => decide (f' = f) && decide (x = n) && decide (sS f' = y)
  | _, _ => false
def hdEs (n : Str) (f : String) : Uk.Es → List PySem.Expr → Bool
  | .n, [] => true
  | .c e es, p :: ps => hdE n f e p && hdEs n f es ps
  | _, _ => false
def hdL (n : Str) (f : String) : Uk.E → PySem.Expr → Bool
  | .lst es, .List ps _ => hdEs n f es ps
  | e, p => hdE n f e p
section
variable {X : L2.Cx} {c : Cx} {C fI : Addr} {k f : String} {a : Addr} {oe : Obj} {cls : Value} {d : Option Addr} {pn : List (Addr × Obj)} {n : Str} {j : Nat}
theorem cst_v {X : L2.Cx} {d : D} {k : Const} {j : Nat} {pos : Pos} (h : ckC d k = true) : ∃ v, PE X (.Constant k j pos) (tC v) ∧ ∀ (K : PySem.W.Frag) (r : List Addr) (H : Hp), VR K r H d v := by
  cases d with
  | non =>
    cases k with
    | none => exact ⟨_, pe_non, fun _ _ _ => .non⟩
    | _ => cases h
  | bl a =>
    cases k with
    | bool b =>
      have h : (a == b) = true := h
      rw [eq_of_beq h]
      exact ⟨_, pe_bl, fun _ _ _ => .bl⟩
    | _ => cases h
  | int a =>
    cases k with
    | int b =>
      have h : a = b := of_decide_eq_true h
      rw [h]
      exact ⟨_, pe_int, fun _ _ _ => .int⟩
    | _ => cases h
  | str a =>
    cases k with
    | str b =>
      have h : sS a = b := of_decide_eq_true h
      subst h
      exact ⟨_, pe_str, fun _ _ _ => .str⟩
    | _ => cases h
  | _ => cases k <;> cases h
theorem hdE_inv {n : Str} {f : String} {h : Uk.E} {p : PySem.Expr} (hh : hdE n f h p = true) : (∃ dd kk l pos, h = .cst dd ∧ p = .Constant kk l pos ∧ ckC dd kk = true) ∨ ∃ p1 pos, h = .exf f ∧ p = .Attribute (.Name n p1) (sS f) pos := by
  unfold hdE at hh
  split at hh
  · exact .inl ⟨_, _, _, _, rfl, rfl, hh⟩
  · simp only [Bool.and_eq_true] at hh
    obtain ⟨⟨h1, h2⟩, h3⟩ := hh
    have h1 := of_decide_eq_true h1
    have h2 := of_decide_eq_true h2
    have h3 := of_decide_eq_true h3
    subst h1 h2 h3
    exact .inr ⟨_, _, rfl, rfl⟩
  · cases hh
theorem hdE_plain {n : Str} {f : String} {h : Uk.E} {p : PySem.Expr} (hh : hdE n f h p = true) : plainP p = true := by
  rcases hdE_inv hh with ⟨_, _, _, _, _, rfl, _⟩ | ⟨_, _, _, rfl⟩ <;> rfl
theorem hd_one (T : ExT X.K C fI f) (gC : X.mg (sS k) = some (.ref C)) (hz : Zc cls d oe) (hf : ∃ vs, oe.data = .fields vs)
    (hj : X.N[j]? = some n) (hv : Vis X.env.scope n) (hd1 : (n == ("__debug__" : Str)) = false) (hd2 : (n == ("__classdict__" : Str)) = false) (δ : Env)
    (h : Uk.E) (p : PySem.Expr) (hh : hdE n f h p = true) : PE (X.suite a ((a, oe) :: pn)) p (LH X j a cls d fun x g => if x.cls = k then ev { c with cur := some x } h δ g else .bad) := by
  rcases hdE_inv hh with ⟨dd, kk, l, pos, rfl, rfl, hh⟩ | ⟨p1, pos, rfl, rfl⟩
  · refine ⟨fun pins s σ H Q I ⟨r, g, x, R, xr, hs, hp⟩ => ?_⟩
    dsimp only at hp
    split at hp
    · have hp : Post X.K X.mg (fun _ _ _ => False) r H (.ok dd g) Q := hp
      obtain ⟨v, hv1, hv2⟩ := cst_v (X := X.suite a ((a, oe) :: pn)) (j := l) (pos := pos) hh
      exact hv1.run pins s σ H Q I (hp.here R (hv2 _ r H))
    · exact hp.elim
  · have P := pe_exf (p1 := p1) (pos := pos) (pn := pn) (a := a) T gC hz hf hj hv hd1 hd2
    refine ⟨fun pins s σ H Q I ⟨r, g, x, R, xr, hs, hp⟩ => P.run pins s σ H Q I ⟨r, g, x, R, xr, hs, ?_⟩⟩
    dsimp only at hp ⊢
    split at hp
    · rename_i hx
      rw [if_pos hx]
      exact hp
    · exact hp.elim
/-- nothing of these makes anything -/
theorem hd_same {c : Cx} {x : Exn} {δ : Env} {g g1 : G} {h : Uk.E} {p : PySem.Expr} {v : D} (hh : hdE n f h p = true) (e : ev { c with cur := some x } h δ g = .ok v g1) : g1 = g := by
  rcases hdE_inv hh with ⟨dd, kk, l, pos, rfl, rfl, hh⟩ | ⟨p1, pos, rfl, rfl⟩
  · have e : Uk.R.ok dd g = .ok v g1 := e
    cases e; rfl
  · have e : (orElse (lookF f x.fs) fun v => Uk.R.ok v g) = .ok v g1 := e
    cases hl : lookF f x.fs with
    | none => rw [hl] at e; cases e
    | some w => rw [hl] at e; cases e; rfl
theorem hd_all (T : ExT X.K C fI f) (gC : X.mg (sS k) = some (.ref C)) (hz : Zc cls d oe) (hf : ∃ vs, oe.data = .fields vs)
    (hj : X.N[j]? = some n) (hv : Vis X.env.scope n) (hd1 : (n == ("__debug__" : Str)) = false) (hd2 : (n == ("__classdict__" : Str)) = false) (δ : Env) :
    ∀ (es : Uk.Es) (ps : List PySem.Expr), hdEs n f es ps = true → PA (X.suite a ((a, oe) :: pn)) ps (LHA X j a cls d fun x g => if x.cls = k then evs { c with cur := some x } es δ g else .bad)
  | .n, [], _ => ⟨fun pos pins s σ H Q I ⟨r, g, x, R, xr, hs, hp⟩ => by
      dsimp only at hp
      split at hp
      · exact pa_nil.run pos pins s σ H Q I (hp r [] H (.refl _ _) R (VRs.nil_iff.mpr rfl))
      · exact hp.elim⟩
  | .n, _ :: _, h => by cases h
  | .c _ _, [], h => by cases h
  | .c e es, p :: ps, h => by
    have h : (hdE n f e p && hdEs n f es ps) = true := h
    rw [Bool.and_eq_true] at h
    have P1 := hd_one (c := c) (pn := pn) (a := a) T gC hz hf hj hv hd1 hd2 δ e p h.1
    have P2 := hd_all T gC hz hf hj hv hd1 hd2 δ es ps h.2
    refine ⟨fun pos pins s σ H Q I ⟨r, g, x, R, xr, hs, hp⟩ => (pa_cons P1 P2 (star_plain (hdE_plain h.1))).run pos pins s σ H Q I ⟨r, g, x, R, xr, hs, ?_⟩⟩
    dsimp only at hp ⊢
    by_cases hx : x.cls = k
    · rw [if_pos hx] at hp ⊢
      have hp : PostA X.K X.mg (fun _ _ _ => False) r H ((ev { c with cur := some x } e δ g).bind fun y g => (evs { c with cur := some x } es δ g).bind fun ys g => .ok (y :: ys) g) Q := hp
      cases hm : ev { c with cur := some x } e δ g with
      | bad => rw [hm] at hp; exact hp.elim
      | exc y g1 => rw [hm] at hp; exact hp
      | ok y g1 =>
        rw [hm] at hp
        have hp : PostA X.K X.mg (fun _ _ _ => False) r H ((evs { c with cur := some x } es δ g1).bind fun ys g => .ok (y :: ys) g) Q := hp
        intro r1 v H1 x1 R1 q1
        refine ⟨r1, g1, x, R1, xr.mono x1, hs, ?_⟩
        dsimp only
        rw [if_pos hx]
        cases hm2 : evs { c with cur := some x } es δ g1 with
        | bad => rw [hm2] at hp; exact hp.elim
        | exc y g2 =>
          rw [hm2] at hp
          exact fun r' H' c d y R q => hp r' H' c d (x1.trans y) R q
        | ok ys g2 =>
          rw [hm2] at hp
          exact fun r' vs H' y R q => hp r' _ H' (x1.trans y) R (.cons (VR.mono y _ _ q1) q)
    · rw [if_neg hx] at hp
      exact hp.elim
end
end Uk
end
section
set_option Elab.async false
set_option linter.all false
set_option maxRecDepth 100000
set_option autoImplicit false
set_option maxHeartbeats 2000000
namespace Uk
open PySem PySem.Spec PyProof.Rows L2
theorem hdL_comp {n : Str} {f : String} {h : Uk.E} {p : PySem.Expr} (hh : hdL n f h p = true) : isComp p = false := by
  unfold hdL at hh
  split at hh
  · rfl
  · rcases hdE_inv hh with ⟨_, _, _, _, _, rfl, _⟩ | ⟨_, _, _, rfl⟩ <;> rfl
theorem hdE_noexc {c : Cx} {n : Str} {f : String} {h : Uk.E} {p : PySem.Expr} {δ : Env} {g g1 : G} {x y : Exn} (hh : hdE n f h p = true) : ev { c with cur := some x } h δ g ≠ .exc y g1 := by
  intro e
  rcases hdE_inv hh with ⟨dd, kk, l, pos, rfl, rfl, hh⟩ | ⟨p1, pos, rfl, rfl⟩
  · have e : Uk.R.ok dd g = .exc y g1 := e
    cases e
  · have e : (orElse (lookF f x.fs) fun v => Uk.R.ok v g) = .exc y g1 := e
    cases hl : lookF f x.fs with
    | none => rw [hl] at e; cases e
    | some w => rw [hl] at e; cases e
theorem hdEs_noexc {c : Cx} {n : Str} {f : String} {δ : Env} {x y : Exn} : ∀ {es : Uk.Es} {ps : List PySem.Expr} {g g1 : G}, hdEs n f es ps = true → evs { c with cur := some x } es δ g ≠ .exc y g1
  | .n, ps, g, g1, hh, e => by
    have e : Uk.R.ok ([] : List D) g = .exc y g1 := e
    cases e
  | .c h es, [], g, g1, hh, e => by cases hh
  | .c h es, p :: ps, g, g1, hh, e => by
    have hh : (hdE n f h p && hdEs n f es ps) = true := hh
    rw [Bool.and_eq_true] at hh
    have e : ((ev { c with cur := some x } h δ g).bind fun v g => (evs { c with cur := some x } es δ g).bind fun vs g => .ok (v :: vs) g) = .exc y g1 := e
    cases hm : ev { c with cur := some x } h δ g with
    | bad => rw [hm] at e; cases e
    | exc z g2 => exact hdE_noexc hh.1 hm
    | ok v g2 =>
      rw [hm] at e
      have e : ((evs { c with cur := some x } es δ g2).bind fun vs g => .ok (v :: vs) g) = .exc y g1 := e
      cases hm2 : evs { c with cur := some x } es δ g2 with
      | bad => rw [hm2] at e; cases e
      | exc z g3 => exact hdEs_noexc hh.2 hm2
      | ok vs g3 => rw [hm2] at e; cases e
theorem hdL_noexc {c : Cx} {n : Str} {f : String} {h : Uk.E} {p : PySem.Expr} {δ : Env} {g g1 : G} {x y : Exn} (hh : hdL n f h p = true) : ev { c with cur := some x } h δ g ≠ .exc y g1 := by
  unfold hdL at hh
  split at hh
  · intro e
    rename_i es ps pos
    have e : ((evs { c with cur := some x } es δ g).bind newL) = .exc y g1 := e
    cases hm : evs { c with cur := some x } es δ g with
    | bad => rw [hm] at e; cases e
    | exc z g2 => exact hdEs_noexc hh hm
    | ok vs g2 =>
      rw [hm] at e
      have e : newL vs g2 = .exc y g1 := e
      unfold newL at e
      split at e <;> cases e
  · exact hdE_noexc hh
section
variable {X : L2.Cx} {c : Cx} {C fI : Addr} {k f : String} {a : Addr} {oe : Obj} {cls : Value} {d : Option Addr} {pn : List (Addr × Obj)} {n : Str} {j : Nat}
theorem hd_exp (T : ExT X.K C fI f) (gC : X.mg (sS k) = some (.ref C)) (hz : Zc cls d oe) (hf : ∃ vs, oe.data = .fields vs)
    (hj : X.N[j]? = some n) (hv : Vis X.env.scope n) (hd1 : (n == ("__debug__" : Str)) = false) (hd2 : (n == ("__classdict__" : Str)) = false) (δ : Env)
    (h : Uk.E) (p : PySem.Expr) (hh : hdL n f h p = true) : PE (X.suite a ((a, oe) :: pn)) p (LH X j a cls d fun x g => if x.cls = k then ev { c with cur := some x } h δ g else .bad) := by
  unfold hdL at hh
  split at hh
  · rename_i es ps pos
    have P := pe_lst (pos := pos) (hd_all (c := c) (pn := pn) (a := a) T gC hz hf hj hv hd1 hd2 δ es ps hh)
    refine ⟨fun pins s σ H Q I ⟨r, g, x, R, xr, hs, hp⟩ => P.run pins s σ H Q I ⟨r, g, x, R, xr, hs, ?_⟩⟩
    dsimp only at hp ⊢
    by_cases hx : x.cls = k
    · rw [if_pos hx] at hp ⊢
      have hp : Post X.K X.mg (fun _ _ _ => False) r H ((evs { c with cur := some x } es δ g).bind newL) Q := hp
      cases hm : evs { c with cur := some x } es δ g with
      | bad => rw [hm] at hp; exact hp.elim
      | exc y g1 => rw [hm] at hp; exact hp
      | ok ds g1 =>
        rw [hm] at hp
        have hp : Post X.K X.mg (fun _ _ _ => False) r H (newL ds g1) Q := hp
        intro r1 vs H1 x1 R1 q
        have hp := hp.ext x1
        unfold newL at hp
        split at hp
        · rename_i hl
          exact ⟨by rw [q.length, ← line_eq]; exact hl, fun p hpn => hp.newLst R1 q hpn⟩
        · exact hp.elim
    · rw [if_neg hx] at hp
      exact hp.elim
  · exact hd_one T gC hz hf hj hv hd1 hd2 δ h p hh
/-- the handler's suite: name = one of these -/
def tHd (X : L2.Cx) (c : Cx) (j i : Nat) (h : Uk.E) (k : String) (a : Addr) (cls : Value) (d : Option Addr) : TS := fun Dn σ H => ∃ (r : List Addr) (g : G) (e : Env) (x : Exn), Rel X.K X.mg r g H ∧ ER X.K r H e σ ∧ XR X.K X.mg r H x cls d ∧ σ[j]? = some (some (.ref a)) ∧ x.cls = k ∧
  PostS X.K X.mg (fun _ _ _ => False) r H ((ev { c with cur := some x } h e g).bind fun v g => .ok (e.set i (some v), .nx) g) Dn
theorem hd_suite (T : ExT X.K C fI f) (gC : X.mg (sS k) = some (.ref C)) (hz : Zc cls d oe) (hf : ∃ vs, oe.data = .fields vs) (nd : X.N.Nodup)
    (hj : X.N[j]? = some n) (hv : Vis X.env.scope n) (hd1 : (n == ("__debug__" : Str)) = false) (hd2 : (n == ("__classdict__" : Str)) = false)
    {i : Nat} {y : Str} {py spos : Pos} {h : Uk.E} {p : PySem.Expr} (hi : X.N[i]? = some y) (hy : Loc X.env.scope y) (hfn : X.fn y = true ∨ X.env.scope.names.lookup y = some .local) (hh : hdL n f h p = true) :
    PSs (X.suite a ((a, oe) :: pn)) [.Assign [.Name y py] p spos] (tHd X c j i h k a cls d) := by
  refine pss_one ⟨fun pins s σ H Dn I ⟨r, g, e, x, R, er, xr, hs, hx, hp⟩ => ?_⟩
  have P := hd_exp (c := c) (pn := pn) (a := a) T gC hz hf hj hv hd1 hd2 e h p hh
  refine (ps_set (X := X.suite a ((a, oe) :: pn)) (pos' := py) (pos := spos) nd hi hy P (sw_plain (hdL_comp hh)) hfn).run pins s σ H Dn I ⟨r, g, x, R, xr, hs, ?_⟩
  dsimp only
  rw [if_pos hx]
  cases hm : ev { c with cur := some x } h e g with
  | bad => rw [hm] at hp; exact hp.elim
  | exc y g1 => rw [hm] at hp; exact hp
  | ok v g1 =>
    rw [hm] at hp
    have hp : PostS X.K X.mg (fun _ _ _ => False) r H (.ok (e.set i (some v), .nx) g1) Dn := hp
    intro r1 w H1 x1 R1 q
    exact hp r1 _ H1 x1 R1 ((er.mono x1).set i q)
end
/-! ## The body of a try -/
def PostB (K : PySem.W.Frag) (mg : Str → Option Value) (W : XK) (r : List Addr) (H : Hp) (i : Option Nat) (e : Env) (m : Uk.R D) (Dn : Ends) : Prop := match m with
  | .ok d g => PostS K mg (fun _ _ _ => False) r H (.ok (setO i d e, .nx) g) Dn
  | .exc x g => ∀ r' H' cls dx, Ext r H r' H' → Rel K mg r' g H' → XR K mg r' H' x cls dx → W cls dx H'
  | .bad => False
def tBody (X : L2.Cx) (i : Option Nat) (m : Env → G → Uk.R D) (W : WX) : TS := fun Dn σ H => ∃ (r : List Addr) (g : G) (e : Env), Rel X.K X.mg r g H ∧ ER X.K r H e σ ∧ PostB X.K X.mg (fun cls d H => W cls d σ H) r H i e (m e g) Dn
section
variable {X : L2.Cx} {ck : Arguments → List Stmt → Scope → FDef → Bool} {c : Cx} {N : List String} {sc : Scope} {E : XK} {r : List Addr} {H : Hp} {g : G} {Dn : Ends} {σ : L2.St} {e : Env}
theorem XOk.tr (S : XS X ck c N sc E) {pn : List (Addr × Obj)} {xe : Value → Shared → Prop} {W : WX} (tk : Takes (X.tr pn xe) W) : XOk (X.tr pn xe) ck c N sc (WE W) where
  nm := S.o.nm
  nd := S.o.nd
  sc := S.o.sc
  calm := S.o.calm
  gf := S.o.gf
  ar0 := S.o.ar0
  ar1 := S.o.ar1
  room := S.o.room
  pass := fun σ => passAt tk σ
/-- the body: a call alone, or name = a call -/
def bodyB (P : Pg) (N : List String) (sc : Scope) (i : Option Nat) (e : Uk.E) (st : Stmt) : Bool := match i, st with
  | none, .Expr p _ => !isComp p && ckE P N sc e p
  | some i, .Assign [.Name x _] p _ => !isComp p && ckE P N sc e p && tgB N sc i x
  | _, _ => false
theorem ok_body (HE : ∀ X sc (E : L2.St → XK), XOk X ck c N sc E → ∀ E, EqIns X c E) (S : XS X ck c N sc E) {i : Option Nat} {ex : Uk.E} {st : Stmt} (hb : bodyB c.P N sc i ex st = true) (W : WX) (pn : List (Addr × Obj)) (xe : Value → Shared → Prop) (tk : Takes (X.tr pn xe) W) :
    PSs (X.tr pn xe) [st] (tBody X i (ev c ex) W) := by
  have O := XOk.tr S tk
  unfold bodyB at hb
  split at hb
  · rename_i p pos
    rw [Bool.and_eq_true, Bool.not_eq_true'] at hb
    have P := (okE HE ex (X.tr pn xe) sc (WE W) p O hb.2).pe
    refine pss_one ⟨fun pins s σ H Dn I ⟨r, g, e, R, er, hp⟩ => (ps_expr (pos := pos) P (sw_plain hb.1)).run pins s σ H Dn I ⟨r, g, e, R, er, ?_⟩⟩
    cases hm : ev c ex e g with
    | bad => rw [hm] at hp; exact hp.elim
    | exc y g1 => rw [hm] at hp; exact hp
    | ok v g1 =>
      rw [hm] at hp
      exact fun r1 w H1 x1 R1 q => hp r1 σ H1 x1 R1 (er.mono x1)
  · rename_i i x py p pos
    simp only [Bool.and_eq_true, Bool.not_eq_true'] at hb
    have P := (okE HE ex (X.tr pn xe) sc (WE W) p O hb.1.2).pe
    obtain ⟨h1, h2, h3⟩ := tgB_get S.o.nm S.tg hb.2
    refine pss_one ⟨fun pins s σ H Dn I ⟨r, g, e, R, er, hp⟩ => (ps_set (X := X.tr pn xe) (pos' := py) (pos := pos) S.o.nd h1 h2 P (sw_plain hb.1.1) h3).run pins s σ H Dn I ⟨r, g, e, R, er, ?_⟩⟩
    cases hm : ev c ex e g with
    | bad => rw [hm] at hp; exact hp.elim
    | exc y g1 => rw [hm] at hp; exact hp
    | ok v g1 =>
      rw [hm] at hp
      exact fun r1 w H1 x1 R1 q => hp r1 _ H1 x1 R1 ((er.mono x1).set i q)
  · cases hb
/-- one clause, with a name -/
theorem ok_try1 (HE : ∀ X sc (E : L2.St → XK), XOk X ck c N sc E → ∀ E, EqIns X c E) (S : XS X ck c N sc E) {i : Option Nat} {ex : Uk.E} {st : Stmt} (hb : bodyB c.P N sc i ex st = true) {k f : String} {j i2 : Nat} {h : Uk.E} {n y : Str} {np py spos pos' pos : Pos} {q : PySem.Expr}
    (hk : c.P.exn k = some (some f)) (hg : glB sc (sS k) = true) (hjn : ckN N j n = true) (hln : sc.names.lookup n = some .local) (hnm : nmB n = true) (ht : tgB N sc i2 y = true) (hij : i2 ≠ j) (hh : hdL n f h q = true) :
    PS X (.Try [st] [.ExceptHandler (some (.Name (sS k) np)) (some n) [.Assign [.Name y py] q spos] pos'] [] [] pos) (LS X E (exe c (.try_ i ex (.c k (some j) (.c (.asg i2 h) .n) .n)))) := by
  obtain ⟨C, fI, gC, T, FN⟩ := S.o.gf.exn k f hk
  obtain ⟨gl, nd, _⟩ := pe_callD.gl_of S.o hg
  obtain ⟨a1, a2, a3⟩ := tgB_get S.o.nm S.tg ht
  have hjN : X.N[j]? = some n := by
    unfold ckN at hjn
    split at hjn
    · rename_i s hs
      rw [S.o.nm, List.getElem?_map, hs, ← of_decide_eq_true hjn]
      rfl
    · cases hjn
  have hl : X.env.kindOf n = some .local := by
    show X.env.scope.names.lookup n = _
    rw [S.o.sc]
    exact hln
  unfold nmB at hnm
  simp only [Bool.and_eq_true, Bool.not_eq_true'] at hnm
  refine ⟨fun pins s σ H Dn I ⟨r, g, e, R, er, hp⟩ => (ps_try_as (np := np) (pos := pos) (pos' := pos') S.hs S.hf S.o.nd hjN hl (c := .ref C) ⟨gl, nd, .inl gC⟩ S.tk (fun W pn xe tk _ => ok_body HE S hb W pn xe tk)
    (fun a oe cls d pn hz hf => hd_suite (c := c) (py := py) (spos := spos) T gC hz hf S.o.nd hjN (.inl hl) hnm.1.1 hnm.1.2 a1 a2 a3 hh)).run pins s σ H Dn I ?_⟩
  refine ⟨r, g, e, R, er, ?_⟩
  have hp : PostS X.K X.mg E r H (match ev c ex e g with
    | .ok x g => .ok (setO i x e, .nx) g
    | .exc x g => exh c x (.c k (some j) (.c (.asg i2 h) .n) .n) e g
    | .bad => .bad) Dn := hp
  cases hm : ev c ex e g with
  | bad => rw [hm] at hp; exact hp.elim
  | ok v g1 =>
    rw [hm] at hp
    exact hp
  | exc x g1 =>
    rw [hm] at hp
    have hp : PostS X.K X.mg E r H (exh c x (.c k (some j) (.c (.asg i2 h) .n) .n) e g1) Dn := hp
    intro r' H' cls dx x1 R1 xr
    unfold exh at hp
    split at hp
    · exact hp.elim
    · rename_i hsome
      obtain ⟨f2, hf2⟩ : ∃ f2, c.P.exn x.cls = some f2 := by
        cases hz : c.P.exn x.cls with
        | none => rw [hz] at hsome; exact absurd rfl hsome
        | some z => exact ⟨z, rfl⟩
      have xr' := xr
      obtain ⟨C2, g2, ec, _⟩ := xr'
      refine ⟨x.cls == k, ?_, fun hb1 a ha => ?_, fun hb1 => ?_⟩
      · rw [ec]
        exact S.o.gf.exm x.cls k f2 (some f) C2 C hf2 hk g2 gC
      · have hx : x.cls = k := eq_of_beq hb1
        rw [if_pos hx] at hp
        have hlen : j < σ.length := by
          have h1 : σ.length = X.N.length := I.len
          rw [h1]
          exact (List.getElem?_eq_some_iff.mp hjN).1
        refine ⟨r', g1, e.set j none, x, R1, ?_, xr, by rw [List.getElem?_set_self hlen], hx, ?_⟩
        · refine ⟨by simp [er.1], fun i' d' z => ?_⟩
          by_cases hi : i' = j
          · subst hi
            rw [List.getElem?_set_self (by have := (List.getElem?_eq_some_iff.mp z).1; simpa using this)] at z
            cases z
          · rw [List.getElem?_set_ne (Ne.symm hi)] at z ⊢
            exact (er.mono x1).2 i' d' z
        · have hp : PostS X.K X.mg E r H ((exs { c with cur := some x } (.c (.asg i2 h) .n) (e.set j none) g1).bind fun z g => .ok (z.1.set j none, z.2) g) Dn := hp
          have e1 : exs { c with cur := some x } (.c (.asg i2 h) .n) (e.set j none) g1 = (ev { c with cur := some x } h (e.set j none) g1).bind fun v g => .ok ((e.set j none).set i2 (some v), .nx) g := by
            show (((ev { c with cur := some x } h (e.set j none) g1).bind fun v g => (.ok ((e.set j none).set i2 (some v), Fl.nx) g : RS)).bind _) = _
            cases ev { c with cur := some x } h (e.set j none) g1 <;> rfl
          rw [e1] at hp
          cases hm2 : ev { c with cur := some x } h (e.set j none) g1 with
          | bad => rw [hm2] at hp; exact hp.elim
          | exc y g2 => exact absurd hm2 (hdL_noexc hh)
          | ok v g2 =>
            rw [hm2] at hp
            have hp : PostS X.K X.mg E r H (.ok (((e.set j none).set i2 (some v)).set j none, .nx) g2) Dn := hp
            intro r2 σ2 H2 x2 R2 er2
            exact hp r2 _ H2 (x1.trans x2) R2 (er2.unset j)
      · have hx : x.cls ≠ k := by
          intro z
          rw [z] at hb1
          simp at hb1
        rw [if_neg hx] at hp
        have hp : PostS X.K X.mg E r H (.exc x g1) Dn := hp
        exact hp r' H' cls dx x1 R1 xr
end
end Uk
end
section
set_option Elab.async false
set_option linter.all false
set_option maxRecDepth 100000
set_option autoImplicit false
set_option maxHeartbeats 2000000
namespace Uk
open PySem PySem.Spec PyProof.Rows L2
/-! ## Is this suite that one? -/
def compOf (e : Uk.E) : Bool := match e with
  | .comp _ _ _ _ _ => true
  | _ => false
mutual
def ckS (P : Pg) (N : List String) (sc : Scope) : S → Stmt → Bool
  | .asg i e, .Assign [.Name x _] p _ => tgB N sc i x && ckE P N sc e p && (isComp p == compOf e)
  | .fld o f e, .Assign [.Attribute po x _] p _ => decide (sS f = x) && ckE P N sc o po && ckE P N sc e p
  | .sub o i e, .Assign [.Subscript po pi _] p _ => ckE P N sc o po && ckE P N sc i pi && ckE P N sc e p
  | .unp l e, .Assign [.Tuple ps _ _] p _ => ckTs N sc l ps && !isTup p && ckE P N sc e p
  | .par i j a b, .Assign [.Tuple [.Name x px, .Name y py] _ _] (.Tuple [pa, pb] _ _) _ => ckN N i x && ckN N j y && !(i == j) && parB sc x y px py pa pb && ckE P N sc a pa && ckE P N sc b pb
  | .ife t a b, .If p A B _ => ckE P N sc t p && ckSs P N sc a A && ckSs P N sc b B
  | .for_ t it b, .For pt pi B [] _ => ckT N sc t pt && tgFor it t && ckI P N sc it pi && ckSs P N sc b B
  | .while_ t b, .While p B [] _ => ckE P N sc t p && ckSs P N sc b B
  | .ret e, .Return (some p) _ => ckE P N sc e p
  | .retN, .Return none _ => true
  | .ex e, .Expr p _ => !isComp p && ckE P N sc e p
  | .pass, .Pass _ => true
  | .rai k (.c e .n), .Raise (some (.Call (.Name x _) [p] [] _)) none _ => decide (sS k = x) && glB sc x && (match P.exn k with
    | some (some _) => true
    | _ => false) && ckE P N sc e p
  | .try_ i e (.c k (some j) (.c (.asg i2 h) .n) .n), .Try [st] [.ExceptHandler (some (.Name x _)) (some n) [.Assign [.Name y _] q _] _] [] [] _ =>
    bodyB P N sc i e st && decide (sS k = x) && glB sc x && ckN N j n && decide (sc.names.lookup n = some .local) && nmB n && tgB N sc i2 y && !(i2 == j) && (match P.exn k with
    | some (some f) => hdL n f h q
    | _ => false)
  | _, _ => false
def ckSs (P : Pg) (N : List String) (sc : Scope) : Ss → List Stmt → Bool
  | .n, [] => true
  | .c s r, st :: sts => ckS P N sc s st && ckSs P N sc r sts
  | _, _ => false
end
theorem cs_asg {P : Pg} {N : List String} {sc : Scope} {i : Nat} {e : Uk.E} {st : Stmt} (h : ckS P N sc (.asg i e) st = true) : ∃ x py p pos, st = .Assign [.Name x py] p pos ∧ tgB N sc i x = true ∧ ckE P N sc e p = true ∧ (isComp p == compOf e) = true := by
  unfold ckS at h
  split at h
  all_goals first
    | (rename_i hh; cases hh; done)
    | (rename_i hh _; cases hh; done)
    | exact absurd h Bool.false_ne_true
    | (rename_i hh
       cases hh
       simp only [Bool.and_eq_true, Bool.not_eq_true'] at h
       obtain ⟨⟨h0, h1⟩, h2⟩ := h
       exact ⟨_, _, _, _, rfl, h0, h1, h2⟩)
theorem cs_fld {P : Pg} {N : List String} {sc : Scope} {o e : Uk.E} {f : String} {st : Stmt} (h : ckS P N sc (.fld o f e) st = true) : ∃ po p1 p pos, st = .Assign [.Attribute po (sS f) p1] p pos ∧ ckE P N sc o po = true ∧ ckE P N sc e p = true := by
  unfold ckS at h
  split at h
  all_goals first
    | (rename_i hh; cases hh; done)
    | (rename_i hh _; cases hh; done)
    | exact absurd h Bool.false_ne_true
    | (rename_i hh
       cases hh
       simp only [Bool.and_eq_true, Bool.not_eq_true'] at h
       obtain ⟨⟨h0, h1⟩, h2⟩ := h
       have h0 := of_decide_eq_true h0
       subst h0
       exact ⟨_, _, _, _, rfl, h1, h2⟩)
theorem cs_sub {P : Pg} {N : List String} {sc : Scope} {o i e : Uk.E} {st : Stmt} (h : ckS P N sc (.sub o i e) st = true) : ∃ po pi p1 p pos, st = .Assign [.Subscript po pi p1] p pos ∧ ckE P N sc o po = true ∧ ckE P N sc i pi = true ∧ ckE P N sc e p = true := by
  unfold ckS at h
  split at h
  all_goals first
    | (rename_i hh; cases hh; done)
    | (rename_i hh _; cases hh; done)
    | exact absurd h Bool.false_ne_true
    | (rename_i hh
       cases hh
       simp only [Bool.and_eq_true, Bool.not_eq_true'] at h
       obtain ⟨⟨h0, h1⟩, h2⟩ := h
       exact ⟨_, _, _, _, _, rfl, h0, h1, h2⟩)
theorem cs_unp {P : Pg} {N : List String} {sc : Scope} {l : List Nat} {e : Uk.E} {st : Stmt} (h : ckS P N sc (.unp l e) st = true) : ∃ ps k p1 p pos, st = .Assign [.Tuple ps k p1] p pos ∧ ckTs N sc l ps = true ∧ isTup p = false ∧ ckE P N sc e p = true := by
  unfold ckS at h
  split at h
  all_goals first
    | (rename_i hh; cases hh; done)
    | (rename_i hh _; cases hh; done)
    | exact absurd h Bool.false_ne_true
    | (rename_i hh
       cases hh
       simp only [Bool.and_eq_true, Bool.not_eq_true'] at h
       obtain ⟨⟨h0, h1⟩, h2⟩ := h
       exact ⟨_, _, _, _, _, rfl, h0, h1, h2⟩)
theorem cs_par {P : Pg} {N : List String} {sc : Scope} {i j : Nat} {a b : Uk.E} {st : Stmt} (h : ckS P N sc (.par i j a b) st = true) : ∃ x px y py k p1 pa pb k2 p2 pos, st = .Assign [.Tuple [.Name x px, .Name y py] k p1] (.Tuple [pa, pb] k2 p2) pos ∧ ckN N i x = true ∧ ckN N j y = true ∧ i ≠ j ∧ parB sc x y px py pa pb = true ∧ ckE P N sc a pa = true ∧ ckE P N sc b pb = true := by
  unfold ckS at h
  split at h
  all_goals first
    | (rename_i hh; cases hh; done)
    | (rename_i hh _; cases hh; done)
    | exact absurd h Bool.false_ne_true
    | (rename_i hh
       cases hh
       simp only [Bool.and_eq_true, Bool.not_eq_true'] at h
       obtain ⟨⟨⟨⟨⟨h0, h1⟩, h2⟩, h3⟩, h4⟩, h5⟩ := h
       exact ⟨_, _, _, _, _, _, _, _, _, _, _, rfl, h0, h1, by simpa using h2, h3, h4, h5⟩)
theorem cs_if {P : Pg} {N : List String} {sc : Scope} {t : Uk.E} {a b : Ss} {st : Stmt} (h : ckS P N sc (.ife t a b) st = true) : ∃ p A B pos, st = .If p A B pos ∧ ckE P N sc t p = true ∧ ckSs P N sc a A = true ∧ ckSs P N sc b B = true := by
  unfold ckS at h
  split at h
  all_goals first
    | (rename_i hh; cases hh; done)
    | (rename_i hh _; cases hh; done)
    | exact absurd h Bool.false_ne_true
    | (rename_i hh
       cases hh
       simp only [Bool.and_eq_true, Bool.not_eq_true'] at h
       obtain ⟨⟨h0, h1⟩, h2⟩ := h
       exact ⟨_, _, _, _, rfl, h0, h1, h2⟩)
theorem cs_for {P : Pg} {N : List String} {sc : Scope} {t : Tg} {it : Uk.It} {b : Ss} {st : Stmt} (h : ckS P N sc (.for_ t it b) st = true) : ∃ pt pi B pos, st = .For pt pi B [] pos ∧ ckT N sc t pt = true ∧ tgFor it t = true ∧ ckI P N sc it pi = true ∧ ckSs P N sc b B = true := by
  unfold ckS at h
  split at h
  all_goals first
    | (rename_i hh; cases hh; done)
    | (rename_i hh _; cases hh; done)
    | exact absurd h Bool.false_ne_true
    | (rename_i hh
       cases hh
       simp only [Bool.and_eq_true, Bool.not_eq_true'] at h
       obtain ⟨⟨⟨h0, h1⟩, h2⟩, h3⟩ := h
       exact ⟨_, _, _, _, rfl, h0, h1, h2, h3⟩)
theorem cs_while {P : Pg} {N : List String} {sc : Scope} {t : Uk.E} {b : Ss} {st : Stmt} (h : ckS P N sc (.while_ t b) st = true) : ∃ p B pos, st = .While p B [] pos ∧ ckE P N sc t p = true ∧ ckSs P N sc b B = true := by
  unfold ckS at h
  split at h
  all_goals first
    | (rename_i hh; cases hh; done)
    | (rename_i hh _; cases hh; done)
    | exact absurd h Bool.false_ne_true
    | (rename_i hh
       cases hh
       simp only [Bool.and_eq_true, Bool.not_eq_true'] at h
       obtain ⟨h0, h1⟩ := h
       exact ⟨_, _, _, rfl, h0, h1⟩)
theorem cs_ret {P : Pg} {N : List String} {sc : Scope} {e : Uk.E} {st : Stmt} (h : ckS P N sc (.ret e) st = true) : ∃ p pos, st = .Return (some p) pos ∧ ckE P N sc e p = true := by
  unfold ckS at h
  split at h
  all_goals first
    | (rename_i hh; cases hh; done)
    | (rename_i hh _; cases hh; done)
    | exact absurd h Bool.false_ne_true
    | (rename_i hh
       cases hh
       have h0 := h
       exact ⟨_, _, rfl, h0⟩)
theorem cs_retN {P : Pg} {N : List String} {sc : Scope} {st : Stmt} (h : ckS P N sc .retN st = true) : ∃ pos, st = .Return none pos := by
  unfold ckS at h
  split at h
  all_goals first
    | (rename_i hh; cases hh; done)
    | (rename_i hh _; cases hh; done)
    | exact absurd h Bool.false_ne_true
    | (exact ⟨_, rfl⟩)
theorem cs_pass {P : Pg} {N : List String} {sc : Scope} {st : Stmt} (h : ckS P N sc .pass st = true) : ∃ pos, st = .Pass pos := by
  unfold ckS at h
  split at h
  all_goals first
    | (rename_i hh; cases hh; done)
    | (rename_i hh _; cases hh; done)
    | exact absurd h Bool.false_ne_true
    | (exact ⟨_, rfl⟩)
theorem cs_ex {P : Pg} {N : List String} {sc : Scope} {e : Uk.E} {st : Stmt} (h : ckS P N sc (.ex e) st = true) : ∃ p pos, st = .Expr p pos ∧ isComp p = false ∧ ckE P N sc e p = true := by
  unfold ckS at h
  split at h
  all_goals first
    | (rename_i hh; cases hh; done)
    | (rename_i hh _; cases hh; done)
    | exact absurd h Bool.false_ne_true
    | (rename_i hh
       cases hh
       simp only [Bool.and_eq_true, Bool.not_eq_true'] at h
       obtain ⟨h0, h1⟩ := h
       exact ⟨_, _, rfl, h0, h1⟩)
theorem cs_rai {P : Pg} {N : List String} {sc : Scope} {k : String} {es : Uk.Es} {st : Stmt} (h : ckS P N sc (.rai k es) st = true) : ∃ e p1 p p2 pos f, es = .c e .n ∧ st = .Raise (some (.Call (.Name (sS k) p1) [p] [] p2)) none pos ∧ glB sc (sS k) = true ∧ P.exn k = some (some f) ∧ ckE P N sc e p = true := by
  unfold ckS at h
  split at h
  all_goals first
    | (rename_i hh; cases hh; done)
    | (rename_i hh _; cases hh; done)
    | exact absurd h Bool.false_ne_true
    | (rename_i hh
       cases hh
       simp only [Bool.and_eq_true] at h
       obtain ⟨⟨⟨h0, h1⟩, h2⟩, h3⟩ := h
       have h0 := of_decide_eq_true h0
       subst h0
       split at h2
       · rename_i f hf
         exact ⟨_, _, _, _, _, f, rfl, rfl, h1, hf, h3⟩
       · cases h2)
theorem cs_try {P : Pg} {N : List String} {sc : Scope} {i : Option Nat} {e : Uk.E} {hs : Hs} {st : Stmt} (h : ckS P N sc (.try_ i e hs) st = true) : ∃ k j i2 hd st1 n y np py spos pos' pos q f, hs = .c k (some j) (.c (.asg i2 hd) .n) .n ∧
    st = .Try [st1] [.ExceptHandler (some (.Name (sS k) np)) (some n) [.Assign [.Name y py] q spos] pos'] [] [] pos ∧ bodyB P N sc i e st1 = true ∧ glB sc (sS k) = true ∧ ckN N j n = true ∧ sc.names.lookup n = some .local ∧ nmB n = true ∧ tgB N sc i2 y = true ∧ i2 ≠ j ∧ P.exn k = some (some f) ∧ hdL n f hd q = true := by
  unfold ckS at h
  split at h
  all_goals first
    | (rename_i hh; cases hh; done)
    | exact absurd h Bool.false_ne_true
    | (rename_i hh
       cases hh
       simp only [Bool.and_eq_true, Bool.not_eq_true'] at h
       obtain ⟨⟨⟨⟨⟨⟨⟨⟨h0, h1⟩, h2⟩, h3⟩, h4⟩, h5⟩, h6⟩, h7⟩, h8⟩ := h
       have h1 := of_decide_eq_true h1
       subst h1
       split at h8
       · rename_i f hf
         exact ⟨_, _, _, _, _, _, _, _, _, _, _, _, _, f, rfl, rfl, h0, h2, h3, of_decide_eq_true h4, h5, h6, by simpa using h7, hf, h8⟩
       · cases h8)
section
variable {ck : Arguments → List Stmt → Scope → FDef → Bool} {c : Cx} {N : List String}
/-- name = e, the model's two roads -/
theorem okS_asg (HE : ∀ X sc (E : L2.St → XK), XOk X ck c N sc E → ∀ E, EqIns X c E) {X : L2.Cx} {sc : Scope} {E : XK} (S : XS X ck c N sc E) {i : Nat} {e : Uk.E} {x : Str} {py pos : Pos} {p : PySem.Expr} (ht : tgB N sc i x = true) (he : ckE c.P N sc e p = true) (hc : (isComp p == compOf e) = true) :
    PS X (.Assign [.Name x py] p pos) (LS X E (exe c (.asg i e))) := by
  by_cases hic : isComp p = true
  · rw [hic] at hc
    have hce : compOf e = true := by simpa using hc
    cases e with
    | comp vs elt tg it cond =>
      obtain ⟨q, pt, pi, ifs, scope, cpos, rfl, h1, h2, h3, h4, h5, h6, h7, h8⟩ := ck_comp he
      have hk : X.env.scope.kind = .function := by rw [S.o.sc]; exact S.kf
      cases hsw : swB X.env.scope (.ListComp q [⟨pt, pi, ifs, 0⟩] scope cpos) x py with
      | false => exact ok_asg S ht (sw_false rfl hk hsw) (okE HE _ X sc (kE E) _ S.o he).pe
      | true =>
        obtain ⟨hyl, hs⟩ := sw_true' (l := pos.line) hk hsw
        refine ok_asgC S ht h1 h2 h3 h4 (okI HE it X sc (kE E) pt pi S.o (tg_tuple h5 h3) h6) (fold_plain (ckI_plain h6)) (fun Y OY => ?_) (fun Y OY => (okE HE elt Y (relS scope sc) E0' q OY h8).pe) hyl hs
        rcases h7 with ⟨rfl, rfl⟩ | ⟨q2, rfl, h7⟩
        · exact ⟨fun pins s σ H Q I ⟨r, g, e, R, er, hp⟩ => by
            obtain ⟨b, eb, hq⟩ := Post.here (d := .bl true) hp R .bl
            cases eb
            exact pts_nil.run pins s σ H Q I hq⟩
        · exact pts_one (okE HE cond Y (relS scope sc) E0' q2 OY h7).pt
    | _ => cases hce
  · exact ok_asg S ht (sw_plain (by simpa using hic)) (okE HE e X sc (kE E) p S.o he).pe
mutual
theorem okS (HE : ∀ X sc (E : L2.St → XK), XOk X ck c N sc E → ∀ E, EqIns X c E) : ∀ (s : S) (X : L2.Cx) (sc : Scope) (E : XK) (st : Stmt), XS X ck c N sc E → ckS c.P N sc s st = true → PS X st (LS X E (exe c s))
  | .asg i e, X, sc, E, st, S, h => by
    obtain ⟨x, py, p, pos, rfl, h1, h2, h3⟩ := cs_asg h
    exact okS_asg HE S h1 h2 h3
  | .fld o f e, X, sc, E, st, S, h => by
    obtain ⟨po, p1, p, pos, rfl, h1, h2⟩ := cs_fld h
    exact ok_fld S (okE HE o X sc (kE E) po S.o h1).pe (okE HE e X sc (kE E) p S.o h2).pe
  | .sub o i e, X, sc, E, st, S, h => by
    obtain ⟨po, pi, p1, p, pos, rfl, h1, h2, h3⟩ := cs_sub h
    exact ok_sub S (ck_plain h2) (okE HE o X sc (kE E) po S.o h1).pe (okE HE i X sc (kE E) pi S.o h2).pe (okE HE e X sc (kE E) p S.o h3).pe
  | .unp l e, X, sc, E, st, S, h => by
    obtain ⟨ps, k, p1, p, pos, rfl, h1, h2, h3⟩ := cs_unp h
    exact ok_unp S h1 h2 (okE HE e X sc (kE E) p S.o h3).pe
  | .par i j a b, X, sc, E, st, S, h => by
    obtain ⟨x, px, y, py, k, p1, pa, pb, k2, p2, pos, rfl, h1, h2, h3, h4, h5, h6⟩ := cs_par h
    exact ok_par S h1 h2 h3 h4 (okE HE a X sc (kE E) pa S.o h5).pe (okE HE b X sc (kE E) pb S.o h6).pe
  | .ife t a b, X, sc, E, st, S, h => by
    obtain ⟨p, A, B, pos, rfl, h1, h2, h3⟩ := cs_if h
    exact ok_if (okE HE t X sc (kE E) p S.o h1).pt (okSs HE a X sc E A S h2) (okSs HE b X sc E B S h3)
  | .for_ t it b, X, sc, E, st, S, h => by
    obtain ⟨pt, pi, B, pos, rfl, h1, h2, h3, h4⟩ := cs_for h
    exact ok_for S h1 (okI HE it X sc (kE E) pt pi S.o (tg_tuple h2 h1) h3) (fold_plain (ckI_plain h3)) (okSs HE b X sc E B S h4)
  | .while_ t b, X, sc, E, st, S, h => by
    obtain ⟨p, B, pos, rfl, h1, h2⟩ := cs_while h
    exact ok_while S (okE HE t X sc (kE E) p S.o h1).pt (okSs HE b X sc E B S h2)
  | .ret e, X, sc, E, st, S, h => by
    obtain ⟨p, pos, rfl, h1⟩ := cs_ret h
    exact ok_ret (okE HE e X sc (kE E) p S.o h1).pe
  | .retN, X, sc, E, st, S, h => by
    obtain ⟨pos, rfl⟩ := cs_retN h
    exact ok_retN
  | .ex e, X, sc, E, st, S, h => by
    obtain ⟨p, pos, rfl, h1, h2⟩ := cs_ex h
    exact ok_ex h1 (okE HE e X sc (kE E) p S.o h2).pe
  | .pass, X, sc, E, st, S, h => by
    obtain ⟨pos, rfl⟩ := cs_pass h
    exact ok_pass
  | .rai k es, X, sc, E, st, S, h => by
    obtain ⟨e, p1, p, p2, pos, f, rfl, rfl, h1, h2, h3⟩ := cs_rai h
    exact ok_rai S h2 h1 (ck_plain h3) (pa_c (ck_plain h3) (okE HE e X sc (kE E) p S.o h3).pe pa_n)
  | .try_ i e hs, X, sc, E, st, S, h => by
    obtain ⟨k, j, i2, hd, st1, n, y, np, py, spos, pos', pos, q, f, rfl, rfl, h1, h2, h3, h4, h5, h6, h7, h8, h9⟩ := cs_try h
    exact ok_try1 HE S h1 h8 h2 h3 h4 h5 h6 h7 h9
theorem okSs (HE : ∀ X sc (E : L2.St → XK), XOk X ck c N sc E → ∀ E, EqIns X c E) : ∀ (b : Ss) (X : L2.Cx) (sc : Scope) (E : XK) (sts : List Stmt), XS X ck c N sc E → ckSs c.P N sc b sts = true → PSs X sts (LS X E (exs c b))
  | .n, X, sc, E, sts, S, h => by
    cases sts with
    | nil => exact oks_nil
    | cons _ _ => unfold ckSs at h; exact absurd h Bool.false_ne_true
  | .c s r, X, sc, E, sts, S, h => by
    cases sts with
    | nil => unfold ckSs at h; exact absurd h Bool.false_ne_true
    | cons st sts =>
      unfold ckSs at h
      rw [Bool.and_eq_true] at h
      exact oks_cons (okS HE s X sc E st S h.1) (okSs HE r X sc E sts S h.2)
end
end
/-! ## Defs -/
def fsB (N P : List Str) (sc : Scope) : Bool :=
  decide (sc.kind = .function) && !sc.isCoroutine && !sc.isGenerator && decide N.Nodup && decide (N.take P.length = P) && P.all (fun x => decide (sc.names.lookup x = some .local) || decide (sc.names.lookup x = some .cell)) && sc.names.all (fun y => !decide (y.2 = .free))
theorem fs_of {N P : List Str} {sc : Scope} (h : fsB N P sc = true) : FnScope N P sc := by
  unfold fsB at h
  simp only [Bool.and_eq_true, Bool.not_eq_true', decide_eq_true_eq, List.all_eq_true, Bool.or_eq_true, decide_eq_false_iff_not] at h
  obtain ⟨⟨⟨⟨⟨⟨h1, h2⟩, h3⟩, h4⟩, h5⟩, h6⟩, h7⟩ := h
  exact ⟨h1, h2, h3, h4, h5, h6, h7⟩
/-- the check of a def -/
def ckD (P : Pg) : Arguments → List Stmt → Scope → FDef → Bool := fun _ body sc fd => fsB (fd.N.map sS) (fd.ps.map sS) sc && ckSs P fd.N sc fd.body body
theorem XS.of {P : Pg} {c : Cx} {N : List String} {prog : Program} {w : World} {K : PySem.W.Frag} {mg : Str → Option Value} {base : Heap} {qual : Str} {sc : Scope} {f : Addr} {cd : Value} {A : Around} {outer : List PySem.Env} {s : Shared} {H : Hp} {E : XK} (hk : sc.kind = .function) (hP : c.P = P)
    (nd : (N.map sS).Nodup) (gf : GF K mg (ckD P) P) (ar0 : ∀ k f ds g, c.call k f ds g ≠ .bad → ∃ fd, c.P.fn k f = some fd ∧ ds.length = fd.ps.length) (ar1 : ∀ k f ds g, c.call1 k f ds g ≠ .bad → ∃ fd, c.P.fn k f = some fd ∧ ds.length = fd.ps.length)
    {n : Nat} (hr : Room n (A.deeper (envOfC qual sc s.heap.objs.size f cd))) (h0 : ∀ X : L2.Cx, X.prog = prog → X.w = w → X.K = K → X.mg = mg → X.base = base → CallsOk X (ckD P) P n c.call)
    (h1 : (∀ k f d g, c.call1 k f d g = .bad) ∨ ∃ m, m + 1 = n ∧ ∀ X : L2.Cx, X.prog = prog → X.w = w → X.K = K → X.mg = mg → X.base = base → CallsOk X (ckD P) P m c.call1) :
    XS (cxOf (L2.CX prog w) prog w K mg base (N.map sS) qual sc f cd A outer s H E) (ckD P) c N sc E := by
  subst hP
  have tk : Takes (cxOf (L2.CX prog w) prog w K mg base (N.map sS) qual sc f cd A outer s H E) fun cls d _ H => E cls d H := takes_of rfl rfl rfl rfl
  refine ⟨⟨rfl, nd, rfl, rfl, gf, ar0, ar1, ⟨n, hr, h0 _ rfl rfl rfl rfl rfl, ?_⟩, fun σ => passAt tk σ⟩, fun x => ⟨fun h => ⟨.inl h, .inl rfl⟩, fun h => ⟨.inr h, .inl rfl⟩⟩, hk, passes_of rfl, tk, rfl, rfl⟩
  rcases h1 with h1 | ⟨m, hm, h1⟩
  · exact .inl h1
  · exact .inr ⟨m, hm, h1 _ rfl rfl rfl rfl rfl⟩
theorem ER.start {K : PySem.W.Frag} {r : List Addr} {H : Hp} {ds : List D} {vs : List V} {N : List String} (h : VRs K r H ds vs) : ER K r H (ds.map some ++ List.replicate (N.length - ds.length) none) (L2.start (N.map sS) vs) := by
  unfold L2.start
  have hl := h.length
  refine ⟨by simp [hl], fun i d e => ?_⟩
  rw [List.getElem?_append] at e ⊢
  simp only [List.length_map, hl] at e ⊢
  split at e
  · rename_i hi
    rw [if_pos hi]
    rw [List.getElem?_map] at e ⊢
    obtain ⟨d0, e1, e2⟩ := Option.map_eq_some_iff.mp e
    cases e2
    obtain ⟨v, e3, e4⟩ := h.get e1
    exact ⟨v, by rw [e3]; rfl, e4⟩
  · rw [List.getElem?_replicate] at e
    split at e <;> cases e
theorem call_ar (P : Pg) : ∀ (n : Nat) (k f : String) (ds : List D) (g : G), call P n k f ds g ≠ .bad → ∃ fd, P.fn k f = some fd ∧ ds.length = fd.ps.length
  | 0, k, f, ds, g, h => absurd rfl h
  | 1, k, f, ds, g, h => by
    unfold call at h
    cases hf : P.fn k f with
    | none => rw [hf] at h; exact absurd rfl h
    | some fd =>
      rw [hf] at h
      refine ⟨fd, rfl, ?_⟩
      dsimp only at h
      unfold runF at h
      split at h
      · assumption
      · exact absurd rfl h
  | n + 2, k, f, ds, g, h => by
    unfold call at h
    cases hf : P.fn k f with
    | none => rw [hf] at h; exact absurd rfl h
    | some fd =>
      rw [hf] at h
      refine ⟨fd, rfl, ?_⟩
      dsimp only at h
      unfold runF at h
      split at h
      · assumption
      · exact absurd rfl h
end Uk
end
section
set_option Elab.async false
set_option linter.all false
set_option maxRecDepth 100000
set_option autoImplicit false
set_option maxHeartbeats 2000000
namespace Uk
open PySem PySem.Spec PyProof.Rows L2
section
variable {P : Pg} {prog : Program} {w : World} {K : PySem.W.Frag} {mg : Str → Option Value} {base : Heap}
/-- the calls of a level, wherever they are told -/
def AllOk (P : Pg) (prog : Program) (w : World) (K : PySem.W.Frag) (mg : Str → Option Value) (base : Heap) (n : Nat) (call : String → String → List D → G → R D) : Prop :=
  ∀ k f fd a dt, P.fn k f = some fd → FnAt K (ckD P) fd a dt → FnOk prog w K mg base (L2.CX prog w) n a dt (fd.ps.map sS) (SpOf K mg fd.ps.length (call k f))
theorem AllOk.at {n : Nat} {call : String → String → List D → G → R D} (h : AllOk P prog w K mg base n call) (X : L2.Cx) (h1 : X.prog = prog) (h2 : X.w = w) (h3 : X.K = K) (h4 : X.mg = mg) (h5 : X.base = base) : CallsOk X (ckD P) P n call := by
  subst h1 h2 h3 h4 h5
  exact h
theorem all_bad (n : Nat) : AllOk P prog w K mg base n fun _ _ _ _ => .bad := fun k f fd a dt _ _ => ⟨fun vs H Q E h => by rw [h.1, List.length_map], fun A outer s H args us vs Q E hr he hb hv hs => by
  obtain ⟨_, r, g, ds, _, _, hp⟩ := hs
  exact hp.elim⟩
theorem all_step (gf : GF K mg (ckD P) P) (HE : ∀ (c : Cx) (N : List String) (X : L2.Cx) (sc : Scope) (E : L2.St → XK), XOk X (ckD P) c N sc E → ∀ E, EqIns X c E) {n : Nat} {call call1 call2 : String → String → List D → G → R D}
    (ar0 : ∀ k f ds g, call k f ds g ≠ .bad → ∃ fd, P.fn k f = some fd ∧ ds.length = fd.ps.length) (ar1 : ∀ k f ds g, call1 k f ds g ≠ .bad → ∃ fd, P.fn k f = some fd ∧ ds.length = fd.ps.length)
    (h0 : AllOk P prog w K mg base n call) (h1 : (∀ k f d g, call1 k f d g = .bad) ∨ ∃ m, m + 1 = n ∧ AllOk P prog w K mg base m call1)
    (hc : ∀ k f fd ds g, P.fn k f = some fd → call2 k f ds g = runF ⟨P, call, call1, none⟩ fd ds g) : AllOk P prog w K mg base (n + 1) call2 := by
  intro k f fd a dt hf at_
  obtain ⟨⟨name, qual, params, body, scope, dvs, kws, F, hck⟩, _⟩ := at_
  have hck : (fsB (fd.N.map sS) (fd.ps.map sS) scope && ckSs P fd.N scope fd.body body) = true := hck
  rw [Bool.and_eq_true] at hck
  have FS := fs_of hck.1
  refine F.ok FS (fun vs H Q E h => by rw [h.1, List.length_map]) fun cdv A outer s H vs Q E hr ⟨hl, r, g, ds, R, hv, hp⟩ => ?_
  have S : XS (cxOf (L2.CX prog w) prog w K mg base (fd.N.map sS) qual scope a cdv A outer s H E) (ckD P) ⟨P, call, call1, none⟩ fd.N scope E :=
    XS.of FS.kind rfl FS.nd gf ar0 ar1 hr (fun X a b c d e => h0.at X a b c d e) (h1.elim .inl fun ⟨m, hm, h1⟩ => .inr ⟨m, hm, fun X a b c d e => h1.at X a b c d e⟩)
  refine ⟨_, okSs (fun X sc E O => HE _ _ X sc E O) fd.body _ scope E body S hck.2, r, g, ds.map some ++ List.replicate (fd.N.length - ds.length) none, R, ER.start hv, ?_⟩
  rw [hc k f fd ds g hf] at hp
  unfold runF at hp
  split at hp
  · cases hm : exs ⟨P, call, call1, none⟩ fd.body (ds.map some ++ List.replicate (fd.N.length - ds.length) none) g with
    | bad => rw [hm] at hp; exact hp.elim
    | exc y g1 => rw [hm] at hp; exact hp
    | ok z g1 =>
      rw [hm] at hp
      obtain ⟨e', fl⟩ := z
      cases fl with
      | nx =>
        have hp : Post K mg E r H (.ok .non g1) Q := hp
        exact fun r' σ' H' x R' _ => hp r' .non H' x R' .non
      | rt d =>
        have hp : Post K mg E r H (.ok d g1) Q := hp
        exact fun r' v H' x R' q => hp r' v H' x R' q
  · exact hp.elim
theorem all_ok (gf : GF K mg (ckD P) P) (HE : ∀ (c : Cx) (N : List String) (X : L2.Cx) (sc : Scope) (E : L2.St → XK), XOk X (ckD P) c N sc E → ∀ E, EqIns X c E) : ∀ n, AllOk P prog w K mg base n (call P n)
  | 0 => all_bad 0
  | 1 => all_step gf HE (call := fun _ _ _ _ => .bad) (call1 := fun _ _ _ _ => .bad) (fun _ _ _ _ h => absurd rfl h) (fun _ _ _ _ h => absurd rfl h) (all_bad 0) (.inl fun _ _ _ _ => rfl) fun k f fd ds g h => by
    show (match P.fn k f with
      | some fd => runF ⟨P, fun _ _ _ _ => .bad, fun _ _ _ _ => .bad, none⟩ fd ds g
      | none => .bad) = _
    rw [h]
  | n + 2 => all_step gf HE (call_ar P (n + 1)) (call_ar P n) (all_ok gf HE (n + 1)) (.inr ⟨n, rfl, all_ok gf HE n⟩) fun k f fd ds g h => by
    show (match P.fn k f with
      | some fd => runF ⟨P, call P (n + 1), call P n, none⟩ fd ds g
      | none => .bad) = _
    rw [h]
end
end Uk
end
section
set_option Elab.async false
set_option linter.all false
set_option maxRecDepth 100000
set_option autoImplicit false
set_option maxHeartbeats 2000000
namespace Uk
open PySem PySem.Spec PyProof.Rows L2
section
variable {X : L2.Cx} {ck : Arguments → List Stmt → Scope → FDef → Bool} {c : Cx} {N : List String} {sc : Scope} {ES : L2.St → XK} {r : List Addr} {H : Hp} {g : G} {pins : List (Addr × Obj)} {s : Shared} {σ : L2.St}
/-- the type of a value that == is asked with -/
theorem right_ty (I : Inv X pins σ H s) (R : Rel X.K X.mg r g H) {k : String} {C : Addr} (hC : X.mg (sS k) = some (.ref C)) {y : D} {w : V} {b : Value} (hy : VR X.K r H y w) (rb : RelV w b) (h : eqRight g k y = true) :
    ∃ tb, PySem.W.Looks (model X.prog X.w) s.heap (typeOf b) tb ∧ (tb = .ref C ∨ ∃ T ∈ ["NoneType", "bool", "int", "str", "tuple", "list"], tb = .type T) := by
  cases y with
  | non =>
    rw [hy.non_inv] at rb
    cases rb
    exact ⟨.type "NoneType", .of_pure rfl, .inr ⟨_, by simp, rfl⟩⟩
  | bl q =>
    rw [hy.bl_inv] at rb
    cases rb
    exact ⟨.type "bool", .of_pure rfl, .inr ⟨_, by simp, rfl⟩⟩
  | int q =>
    rw [hy.int_inv] at rb
    obtain ⟨t, rfl⟩ := rb
    exact ⟨.type "int", .of_pure rfl, .inr ⟨_, by simp, rfl⟩⟩
  | str q =>
    rw [hy.str_inv] at rb
    obtain ⟨t, rfl⟩ := rb
    exact ⟨.type "str", .of_pure rfl, .inr ⟨_, by simp, rfl⟩⟩
  | tup xs =>
    obtain ⟨p, vs, rfl, h1, _⟩ := hy.tup_inv
    obtain rfl : b = Value.ref p := rb
    obtain ⟨its, rv, ⟨o, ho, hc, _⟩, _⟩ := I.tuple h1
    exact ⟨.type "tuple", fun A Q E s k q => wpAny_typeOf_ref (k _ _ ho) (by rw [hc]; exact q), .inr ⟨_, by simp, rfl⟩⟩
  | ref j =>
    obtain ⟨p, e, rfl⟩ := hy.ref_inv
    obtain rfl : b = Value.ref p := rb
    obtain ⟨o, ho, oo⟩ := R.get e
    unfold eqRight at h
    dsimp only at h
    rw [ho] at h
    cases o with
    | lst xs =>
      obtain ⟨vs, h1, _⟩ := oo
      obtain ⟨z, its, n, rv, hob⟩ := I.hok p _ h1
      exact ⟨.type "list", fun A Q E s k q => wpAny_typeOf_ref (k _ _ hob) q, .inr ⟨_, by simp, rfl⟩⟩
    | ins k' fs =>
      have hk : k' = k := eq_of_beq h
      subst hk
      obtain ⟨C2, dx, ps, h0, h1, _⟩ := oo
      rw [hC] at h0
      cases h0
      obtain ⟨mA, J, _⟩ := ins_get I.hok h1
      obtain ⟨od, J, _⟩ := J.look
      exact ⟨.ref C, fun A Q E s k q => wpAny_typeOf_ref (k _ _ J.at_) (by rw [J.cls]; exact q), .inl rfl⟩
    | dK _ => cases h
    | dT _ => cases h
  | fro _ => cases h
theorem eqIns (O : XOk X ck c N sc ES) : ∀ E, EqIns X c E := by
  intro E pins s σ H r g i k fs y v w a b Q I R hi hx hy ra rb
  have hx' := hx
  obtain ⟨p, ep, rfl⟩ := hx'.ref_inv
  obtain rfl : a = Value.ref p := ra
  obtain ⟨C, dx, ps, h0, h1, h2⟩ := R.at_ i p _ ep hi
  have eo : eqOp c (.ref i) y g = if c.P.cls k && !c.P.prop k "__eq__" && eqRight g k y then (noX (c.call1 k "__eq__" [.ref i, y] g)).bind fun d g => match d with
      | .bl b => .ok b g
      | _ => .bad
      else .bad := by
    simp only [eqOp, hi]
    try rfl
  have main : ∀ {q : Bool → Bool} {Q : VK}, Post X.K X.mg E r H ((eqOp c (.ref i) y g).bind fun b g => .ok (.bl (q b)) g) Q → ∃ (fa : Addr) (tb : Value) (C2 : Addr), X.mg (sS k) = some (.ref C2) ∧ ClsAt X.K c.P k C2 ∧ Meth X.K C2 (sS "__eq__") fa ∧
      PySem.W.Looks (model X.prog X.w) s.heap (typeOf b) tb ∧ PySem.W.notFirst X.K C2 tb = true ∧ ∀ (A : Around) (E' : Value → Shared → Prop), (A = X.A ∨ A = X.A.in1) → wpAny (model X.prog X.w) A (PySem.call (.ref fa) [.ref p, b]) (fun u s' => ∃ z, u = .bool z ∧ ∃ H', Inv X pins σ H' s' ∧ Q (.bl (q z)) H') E' s := by
    intro q Q hp
    rw [eo] at hp
    split at hp
    · rename_i hc
      rw [Bool.and_eq_true, Bool.and_eq_true, Bool.not_eq_true'] at hc
      obtain ⟨⟨hcl, hpr⟩, hr⟩ := hc
      have hp2 : Post X.K X.mg E r H ((noX (c.call1 k "__eq__" [.ref i, y] g)).bind fun d g => match d with
        | .bl b => .ok (.bl (q b)) g
        | _ => .bad) Q := by
        cases hm : noX (c.call1 k "__eq__" [.ref i, y] g) with
        | bad => rw [hm] at hp; exact hp
        | exc _ _ => rw [hm] at hp; exact hp
        | ok d g1 =>
          rw [hm] at hp
          cases d with
          | bl b => exact hp
          | _ => exact hp
      obtain ⟨d, g1, hc1, hp3⟩ := noX_post (E' := E) (α := Unit) hp2
      obtain ⟨fd, hfd, hl⟩ := O.ar1 k "__eq__" _ g (by rw [hc1]; exact fun z => by cases z)
      obtain ⟨C2, hC2, ca⟩ := O.gf.cls k hcl
      obtain ⟨fa, dt, M, at_⟩ := O.gf.met k "__eq__" fd C2 hcl hfd hpr hC2
      obtain ⟨tb, ht, hn⟩ := right_ty I R hC2 hy rb hr
      refine ⟨fa, tb, C2, hC2, ca, M, ht, ?_, fun A E' hA => ?_⟩
      · rcases hn with rfl | ⟨T, hT, rfl⟩
        · simp [PySem.W.notFirst]
        · exact ca.nf T hT
      · refine run1 O hfd at_ I R (ds := [.ref i, y]) (vs := [.ref p, w]) (us := [.ref p, b]) (.cons hx (.cons hy (VRs.nil_iff.mpr rfl))) (.cons rfl (.cons rb .nil)) hc1 hl hA fun u s1 r1 H1 v1 I1 x1 R1 q1 ru => ?_
        cases d with
        | bl z =>
          rw [q1.bl_inv] at ru
          cases ru
          have hp3 : Post X.K X.mg E r H (.ok (.bl (q z)) g1) Q := hp3
          exact ⟨z, rfl, H1, I1, hp3 r1 _ H1 x1 R1 .bl⟩
        | _ => exact hp3.elim
    · exact hp.elim
  obtain ⟨mA, J, _⟩ := ins_get I.hok h1
  refine ⟨fun hp => ?_, fun hne hp => ?_⟩
  · obtain ⟨fa, tb, C2, hC2, ca, M, ht, hn, hcall⟩ := main (q := fun b => b) hp
    rw [h0] at hC2
    cases hC2
    obtain ⟨od, J, _⟩ := J.look
    obtain ⟨m, hF⟩ := I.fr
    have hu : X.A.units < cLine := by
      have := O.units
      omega
    unfold compareOp
    refine PySem.W.cmp_K (op := .Eq) (tb := tb) hu hF I.ok.mod.kin J ht hn M.at_ M.fn (thn (hcall X.A X.xe (.inl rfl)) fun u s1 ⟨z, eu, H1, I1, q⟩ => ?_)
    subst eu
    exact ⟨.bl z, H1, I1, rfl, q⟩
  · obtain ⟨fa, tb, C2, hC2, ca, M, ht, hn, hcall⟩ := main (q := fun b => !b) hp
    rw [h0] at hC2
    cases hC2
    have hyi : ∃ (p2 : Addr) (oy : Obj), b = .ref p2 ∧ s.heap.get? p2 = some oy ∧ oy.cls = .ref C := by
      unfold neOk at hne
      dsimp only at hne
      rw [hi] at hne
      dsimp only at hne
      cases y with
      | ref j =>
        dsimp only at hne
        obtain ⟨p2, e2, rfl⟩ := hy.ref_inv
        obtain rfl : b = Value.ref p2 := rb
        obtain ⟨o, ho, oo⟩ := R.get e2
        rw [ho] at hne
        cases o with
        | ins k' fs' =>
          have hk : k' = k := eq_of_beq hne
          subst hk
          obtain ⟨C3, dx3, ps3, h03, h13, _⟩ := oo
          rw [h0] at h03
          cases h03
          obtain ⟨mB, J2, _⟩ := ins_get I.hok h13
          obtain ⟨od, J2, _⟩ := J2.look
          exact ⟨p2, _, rfl, J2.at_, J2.cls⟩
        | _ => cases hne
      | _ => cases hne
    obtain ⟨p2, oy, rfl, hgy, hcy⟩ := hyi
    obtain ⟨od, J, _⟩ := J.look
    have hO := ca.ne fa M.at_ s.heap p _ I.kIn J.at_ J.cls
    have hu : X.A.units + 1 < cLine := by
      have := O.units
      omega
    obtain ⟨hp', g', d', t', os'⟩ := s
    refine compareOp_ne_ownEq F.cmp_object hO hgy hcy hu (thn (hcall X.A.in1 X.xe (.inr rfl)) fun u s1 ⟨z, eu, H1, I1, q⟩ => ?_)
    exact ⟨z, eu, .bl (!z), H1, I1, rfl, q⟩
end
theorem all_calls {P : Pg} {prog : Program} {w : World} {K : PySem.W.Frag} {mg : Str → Option Value} {base : Heap} (gf : GF K mg (ckD P) P) (n : Nat) : AllOk P prog w K mg base n (call P n) := all_ok gf (fun c N X sc E O => eqIns O) n
end Uk
end
section
set_option Elab.async false
set_option linter.all false
set_option maxRecDepth 100000
set_option autoImplicit false
set_option maxHeartbeats 2000000
namespace Uk
open PySem PySem.Spec PyProof.Rows L2
open PySem.W (Frag nsIn findIn specialIn takesIn mroIn kitOne keepIn isFn subIn typeIn hasDictIn exmOne recIn notFirst codeIn nsOkIn)
/-! ## A program as data -/
structure DE where
  k : String
  f : String
  st : Stmt
structure PgD where
  ds : List (DE × FDef)
  xs : List DE
  cons : List (String × D)
  exns : List (String × Option String)
  cls : List String
  prop : List (String × String)
  fld : List (String × String)
  base : String → String → Bool
def PgD.fns (d : PgD) : List ((String × String) × FDef) := d.ds.map fun q => ((q.1.k, q.1.f), q.2)
def pgOf (d : PgD) : Pg := ⟨fun k x => d.fns.lookup (k, x), fun x => d.cons.lookup x, fun x => d.exns.lookup x, fun x => d.cls.contains x, fun c x => d.prop.contains (c, x), fun c x => d.fld.contains (c, x), d.base⟩
theorem lookup_in {α β : Type} [BEq α] [LawfulBEq α] {x : α} {y : β} : ∀ {l : List (α × β)}, l.lookup x = some y → (x, y) ∈ l
  | [], h => by cases h
  | (a, b) :: r, h => by
    rw [List.lookup_cons] at h
    split at h
    · rename_i e
      cases h
      rw [eq_of_beq e]
      exact List.mem_cons_self
    · exact List.mem_cons_of_mem _ (lookup_in h)
theorem PgD.fn_in {d : PgD} {k f : String} {fd : FDef} (h : (pgOf d).fn k f = some fd) : ∃ q ∈ d.ds, q.1.k = k ∧ q.1.f = f ∧ q.2 = fd := by
  have h1 := lookup_in (show d.fns.lookup (k, f) = some fd from h)
  obtain ⟨q, hq, e⟩ := List.mem_map.mp h1
  cases e
  exact ⟨q, hq, rfl, rfl, rfl⟩
/-! ## Where things stand -/
abbrev gaS (K : Frag) (x : String) : Addr := He.ga K (sS x)
def getter (K : Frag) (p : Addr) : Addr := match recIn K p "property" with
  | some (.ref g :: _) => g
  | _ => 0
def defAd (d : PgD) (K : Frag) (e : DE) : Addr := if e.k = "" then gaS K e.f else if d.prop.contains (e.k, e.f) then getter K (He.ma K (gaS K e.k) (sS e.f)) else He.ma K (gaS K e.k) (sS e.f)
def DE.qual (e : DE) : Str := sS (if e.k = "" then e.f else e.k ++ "." ++ e.f)
def fnV (K : Frag) (a : Addr) : He.FnW := match K.lookup a with
  | some ⟨_, _, .func fd, _⟩ => some (fd.name, fd.qualname, fd.params, fd.body, fd.scope, fd.globals, fd.closure, fd.builtins)
  | _ => none
def DE.val (e : DE) : He.FnW := some (sS e.f, e.qual, defArgs e.st, .stmts (defBody e.st), defScope e.st, mainGlobals, [], builtinsNs)
def DE.ok (K : Frag) (a : Addr) (e : DE) : Bool := keepIn K (.ref a) && match K.lookup a with
  | some ⟨_, _, .func fd, _⟩ => codeIn K fd.code e.qual && (He.dflB K fd.defaults [] && He.kwdB K fd.kwdefaults [])
  | _ => false
theorem DE.funD {K : Frag} {a : Addr} {e : DE} (h : fnV K a = e.val) (c : e.ok K a = true) : ∃ dt, FunD K (sS e.f) e.qual (defArgs e.st) (defBody e.st) (defScope e.st) [] [] a dt := by
  unfold DE.ok at c
  rw [Bool.and_eq_true] at c
  obtain ⟨kp, c⟩ := c
  unfold fnV at h
  split at c
  · rename_i oc od fd osl hl
    rw [hl] at h
    simp only [Bool.and_eq_true] at c
    obtain ⟨c1, c2, c3⟩ := c
    obtain ⟨n1, n2, n3, n4, n5, n6, n7, n8, n9, n10, n11, n12, n13, n14, n15⟩ := fd
    have h : (some (n1, n2, n3, n4, n5, n6, n7, n15) : He.FnW) = some (sS e.f, e.qual, defArgs e.st, .stmts (defBody e.st), defScope e.st, mainGlobals, [], builtinsNs) := h
    simp only [Option.some.injEq, Prod.mk.injEq] at h
    obtain ⟨e1, e2, e3, e4, e5, e6, e7, e8⟩ := h
    subst e1 e2 e3 e4 e5 e6 e7 e8
    exact ⟨_, ⟨oc, od, n8, n9, n10, n11, n12, n13, n14, osl, rfl, hl, c1, He.dflB_ok c2, He.kwdB_ok c3⟩, kp⟩
  · cases c
/-! ## Constants -/
mutual
def valB (K : Frag) : D → Value → Bool
  | .non, .none => true
  | .bl a, .bool b => a == b
  | .int i, .int j _ => decide (i = j)
  | .str s, .str x _ => decide (sS s = x)
  | .tup xs, .ref a => match K.lookup a with
    | some ⟨.type c, none, .seq its _, _⟩ => decide (c = "tuple") && decide (its.size ≤ sizeLine) && valsB K xs its.toList
    | _ => false
  | _, _ => false
def valsB (K : Frag) : List D → List Value → Bool
  | [], [] => true
  | x :: xs, u :: us => valB K x u && valsB K xs us
  | _, _ => false
end
mutual
theorem valB_ok {K : Frag} : ∀ (d : D) (u : Value), valB K d u = true → ∃ v, RelV v u ∧ ∀ r H, VR K r H d v
  | .non, u, h => by
    cases u <;> first
      | exact ⟨.non, rfl, fun _ _ => .non⟩
      | (unfold valB at h; exact absurd h Bool.false_ne_true)
  | .bl a, u, h => by
    cases u <;> first
      | (unfold valB at h; rename_i b; rw [← eq_of_beq h]; exact ⟨.bl a, rfl, fun _ _ => .bl⟩)
      | (unfold valB at h; exact absurd h Bool.false_ne_true)
  | .int a, u, h => by
    cases u <;> first
      | (unfold valB at h; rename_i b t; rw [← of_decide_eq_true h]; exact ⟨.int a, ⟨t, rfl⟩, fun _ _ => .int⟩)
      | (unfold valB at h; exact absurd h Bool.false_ne_true)
  | .str a, u, h => by
    cases u <;> first
      | (unfold valB at h; rename_i b t; rw [← of_decide_eq_true h]; exact ⟨.str (sS a), ⟨t, rfl⟩, fun _ _ => .str⟩)
      | (unfold valB at h; exact absurd h Bool.false_ne_true)
  | .tup xs, u, h => by
    cases u with
    | ref a =>
      unfold valB at h
      split at h
      · rename_i c its n sl hl
        simp only [Bool.and_eq_true] at h
        obtain ⟨⟨h1, h2⟩, h3⟩ := h
        have h1 := of_decide_eq_true h1
        subst h1
        obtain ⟨vs, rv, hv⟩ := valsB_ok xs its.toList h3
        exact ⟨.ref a, rfl, fun r H => .tup (vs := vs) (.inr ⟨_, its, n, hl, rfl, rfl, of_decide_eq_true h2, rv⟩) (hv r H)⟩
      · cases h
    | _ => unfold valB at h; exact absurd h Bool.false_ne_true
  | .ref _, u, h => by cases u <;> (unfold valB at h; exact absurd h Bool.false_ne_true)
  | .fro _, u, h => by cases u <;> (unfold valB at h; exact absurd h Bool.false_ne_true)
theorem valsB_ok {K : Frag} : ∀ (ds : List D) (us : List Value), valsB K ds us = true → ∃ vs, Vals vs us ∧ ∀ r H, VRs K r H ds vs
  | [], [], _ => ⟨[], .nil, fun _ _ => VRs.nil_iff.mpr rfl⟩
  | [], _ :: _, h => by unfold valsB at h; exact absurd h Bool.false_ne_true
  | _ :: _, [], h => by unfold valsB at h; exact absurd h Bool.false_ne_true
  | d :: ds, u :: us, h => by
    unfold valsB at h
    rw [Bool.and_eq_true] at h
    obtain ⟨v, r1, h1⟩ := valB_ok d u h.1
    obtain ⟨vs, r2, h2⟩ := valsB_ok ds us h.2
    exact ⟨v :: vs, .cons r1 r2, fun r H => .cons (h1 r H) (h2 r H)⟩
end
def conB (K : Frag) (q : String × D) : Bool := match nsIn K mainGlobals (sS q.1) with
  | some (some u) => valB K q.2 u
  | _ => false
/-! ## Classes -/
def plainTypes : List String := ["NoneType", "bool", "int", "str", "tuple", "list"]
def neB (K : Frag) (C : Addr) : Bool := match findIn K (.ref C) "__eq__" with
  | some (some (.ref f)) => (match K.lookup C with
    | some ⟨.type t, _, .cls cd, sl⟩ => decide (t = "type") && (match cd.mro, sl.toList with
      | [.ref C', .type o], [_, _, _, _, some (.builtin n), _] => C' == C && o == "object" && n == "object.__new__" && !cd.hasDel && nsOkIn K cd.ns && decide (nsIn K cd.ns "__ne__" = some none) && decide (nsIn K cd.ns "__eq__" = some (some (.ref f))) && (match K.lookup f with
        | some ⟨.type t, _, _, _⟩ => decide (t = "function")
        | _ => false)
      | _, _ => false)
    | _ => false)
  | _ => true
theorem ns_some_of {K : Frag} {h : Heap} {N : Addr} {m : Str → Option Value} {n : Str} {v : Value} (X : K.In h) (G : h.Ns N m) (e : nsIn K N n = some (some v)) : m n = some v := by
  obtain ⟨o, es, ep, ho, hd, _, hf⟩ := G
  unfold PySem.W.nsIn at e
  split at e
  · rename_i c d es' n' sl q
    have z := X _ _ q
    rw [ho] at z
    cases z
    cases hd
    split at e
    · rename_i y he
      cases e
      rw [← hf]
      unfold nsFind findBy
      rw [← Array.find?_toList, he]
      rfl
    · split at e <;> cases e
  · cases e
theorem neB_ok {K : Frag} {C : Addr} (c : neB K C = true) : ∀ f, findIn K (.ref C) "__eq__" = some (some (.ref f)) → ∀ (h : Heap) (x : Addr) (o : Obj), K.In h → h.get? x = some o → o.cls = .ref C → h.OwnEqNoNe x C f "object" [.type "object"] := by
  intro f hf h x o X hx hc
  unfold neB at c
  rw [hf] at c
  dsimp only at c
  split at c
  · rename_i t dd cd sl hl
    rw [Bool.and_eq_true] at c
    obtain ⟨ht, c⟩ := c
    have ht := of_decide_eq_true ht
    subst ht
    split at c
    · rename_i C' ob k0 k1 k2 k3 n k5 hm hs
      simp only [Bool.and_eq_true, beq_iff_eq, Bool.not_eq_true'] at c
      obtain ⟨⟨⟨⟨⟨⟨⟨rfl, rfl⟩, rfl⟩, hdel⟩, hok⟩, hne⟩, heq⟩, hfn⟩ := c
      obtain ⟨nm, bs, mro, ns, qn, hd, sn, sub, ab, col, del⟩ := cd
      dsimp only at hm hdel hok hne heq
      subst hm hdel
      have hsl : sl = #[k0, k1, k2, k3, some (.builtin "object.__new__"), k5] := by
        obtain ⟨l⟩ := sl
        simp only at hs
        rw [hs]
      subst hsl
      split at hfn
      · rename_i t2 dd2 dt2 sl2 hlf
        have ht2 := of_decide_eq_true hfn
        subst ht2
        have G : h.Ns ns (h.nsMap ns) := .of_isNs (PySem.W.isNs_of_in X hok)
        exact ⟨o, _, nm, qn, ns, bs, hd, sn, sub, ab, col, dd, k0, k1, k2, k3, k5, _, _, _, hx, hc, X _ _ hl, G, ns_some_of X G (of_decide_eq_true heq), X _ _ hlf, rfl, F.cmp_object.mro, F.cmp_object.eq.lookup, PySem.W.nsMap_none_of_in X hok (of_decide_eq_true hne)⟩
      · cases hfn
    · cases c
  · cases c
def clsB (d : PgD) (K : Frag) (k : String) : Bool := (He.Fa.glo (sS k)).ok K && (He.Fa.cls (sS k)).ok K && (He.Fa.mkr (sS k)).ok K && (d.fld.all fun p => !(p.1 == k) || (He.Fa.noat (sS k) (sS p.2)).ok K) &&
  He.eqO (findIn K (.ref (gaS K k)) "__class__") (some (some (.builtin "object.__class__"))) && He.eqO (specialIn K (.builtin "object.__class__") "__get__") (some (some (.builtin "getset_descriptor.__get__"))) && decide (takesIn K (.builtin "object.__class__") = some true) &&
  decide (mroIn K (gaS K k) (.type "object") = some true) && (plainTypes.all fun T => notFirst K (gaS K k) (.type T)) && neB K (gaS K k) && ((plainTypes ++ ["dict"]).all fun T => decide (kitOne K (.type T) (.ref (gaS K k)) = some false))
theorem clsB_ok {d : PgD} {K : Frag} {k : String} (c : clsB d K k = true) : ClsAt K (pgOf d) k (gaS K k) := by
  unfold clsB at c
  simp only [Bool.and_eq_true, List.all_eq_true, decide_eq_true_eq] at c
  obtain ⟨⟨⟨⟨⟨⟨⟨⟨⟨⟨c0, c1⟩, c2⟩, c3⟩, c4⟩, c5⟩, c6⟩, c7⟩, c8⟩, c9⟩, c10⟩ := c
  refine ⟨He.cls_ok c1, fun f hf => ?_, ⟨_, He.mkr_ok c2⟩, He.eqO_ok c4, He.eqO_ok c5, c6, c7, fun T hT => c8 T hT, neB_ok c9, fun T hT => c10 T (by
    simp only [List.mem_cons, List.not_mem_nil, or_false, plainTypes, List.mem_append] at hT ⊢
    rcases hT with h | h | h | h | h | h | h <;> simp [h])⟩
  have hm : (k, f) ∈ d.fld := by
    have : d.fld.contains (k, f) = true := hf
    simpa using this
  have := c3 (k, f) hm
  simp only [beq_self_eq_true, Bool.not_true, Bool.false_or] at this
  exact He.noat_ok this
def propB (K : Frag) (k f : String) : Bool := match findIn K (.ref (gaS K k)) (sS f) with
  | some (some (.ref p)) => He.eqO (specialIn K (.ref p) "__get__") (some (some (.builtin "property.__get__"))) && decide (takesIn K (.ref p) = some true) && (match recIn K p "property" with
    | some (.ref _ :: _) => true
    | _ => false)
  | _ => false
theorem propB_ok {K : Frag} {k f : String} (c : propB K k f = true) : ∃ p, PropOf K (gaS K k) (sS f) p (getter K (He.ma K (gaS K k) (sS f))) := by
  unfold propB at c
  split at c
  · rename_i p hp
    simp only [Bool.and_eq_true] at c
    obtain ⟨⟨c1, c2⟩, c3⟩ := c
    have hm : He.ma K (gaS K k) (sS f) = p := by unfold He.ma; rw [hp]
    rw [hm]
    split at c3
    · rename_i g rest hr
      refine ⟨p, hp, He.eqO_ok c1, of_decide_eq_true c2, rest, ?_⟩
      unfold getter
      rw [hr]
    · cases c3
  · cases c
/-! ## Errors -/
def exB (K : Frag) (k f : String) : Bool := (match K.lookup (gaS K k) with
    | some ⟨.type t, _, .cls cd, sl⟩ => decide (t = "type") && (match cd.mro, sl.toList with
      | .ref C' :: bm, [_, _, _, _, some (.builtin n), _] => C' == gaS K k && n == "ValueError.__new__" && !cd.hasDel && cd.hasDict && HandSPX.refsVE bm
      | _, _ => false)
    | _ => false) && He.eqO (findIn K (.ref (gaS K k)) "__setattr__") (some (some (.builtin "object.__setattr__"))) && He.eqO (findIn K (.ref (gaS K k)) "__getattribute__") (some (some (.builtin "BaseException.__getattribute__"))) &&
  He.eqO (findIn K (.ref (gaS K k)) "__getattr__") (some none) && He.eqO (findIn K (.ref (gaS K k)) (sS f)) (some none) && He.eqO (findIn K (.ref (gaS K k)) "__init__") (some (some (.ref (He.ma K (gaS K k) (sS "__init__"))))) &&
  decide (typeIn K (.ref (He.ma K (gaS K k) (sS "__init__"))) = some (.type "function")) && keepIn K (.ref (gaS K k)) && decide (subIn K (.ref (gaS K k)) (.type "BaseException") = some true) && decide (typeIn K (.ref (gaS K k)) = some (.type "type")) && hasDictIn K (gaS K k)
/-- the text of an error's __init__ -/
structure ExI (e : DE) (f : String) : Prop where
  nm : e.f = "__init__"
  k : e.k ≠ ""
  tx : ∃ p1 p2 q1 q2 q3 q4, defArgs e.st = eA f p1 p2 ∧ defBody e.st = eB f q1 q2 q3 q4 ∧ defScope e.st = eS f
  fn : FldN f
theorem exB_ok {d : PgD} {K : Frag} {e : DE} {f : String} {dt : FuncData} (c : exB K e.k f = true) (I : ExI e f) (hp : d.prop.contains (e.k, e.f) = false) (F : FunD K (sS e.f) e.qual (defArgs e.st) (defBody e.st) (defScope e.st) [] [] (defAd d K e) dt) : ExT K (gaS K e.k) (He.ma K (gaS K e.k) (sS "__init__")) f := by
  unfold exB at c
  simp only [Bool.and_eq_true, decide_eq_true_eq] at c
  obtain ⟨⟨⟨⟨⟨⟨⟨⟨⟨⟨c0, c1⟩, c2⟩, c3⟩, c4⟩, c5⟩, c6⟩, c7⟩, c8⟩, c9⟩, c10⟩ := c
  have had : defAd d K e = He.ma K (gaS K e.k) (sS "__init__") := by
    unfold defAd
    rw [if_neg I.k, hp, I.nm]
    rfl
  refine ⟨?_, He.eqO_ok c1, He.eqO_ok c2, He.eqO_ok c3, He.eqO_ok c4, He.eqO_ok c5, c6, c7, c8, c9, c10, ?_⟩
  · split at c0
    · rename_i t dd cd sl hl
      rw [Bool.and_eq_true] at c0
      obtain ⟨ht, c0⟩ := c0
      have ht := of_decide_eq_true ht
      subst ht
      split at c0
      · rename_i C' bm k0 k1 k2 k3 n k5 hm hs
        simp only [Bool.and_eq_true, beq_iff_eq, Bool.not_eq_true'] at c0
        obtain ⟨⟨⟨⟨rfl, rfl⟩, hdel⟩, hdc⟩, hbm⟩ := c0
        obtain ⟨nm, bs, mro, ns, qn, hd, sn, sub, ab, col, del⟩ := cd
        dsimp only at hm hdel hdc
        subst hm hdel hdc
        have hsl : sl = #[k0, k1, k2, k3, some (.builtin "ValueError.__new__"), k5] := by
          obtain ⟨l⟩ := sl
          simp only at hs
          rw [hs]
        subst hsl
        exact ⟨nm, qn, ns, bs, bm, sn, sub, ab, col, dd, k0, k1, k2, k3, k5, hl, hbm⟩
      · cases c0
    · cases c0
  · obtain ⟨⟨oc, od, dV, kV, doc, pm, an, cdv, ct, osl, e1, e2, e3, e4, _⟩, _⟩ := F
    obtain ⟨p1, p2, q1, q2, q3, q4, t1, t2, t3⟩ := I.tx
    rw [had] at e2
    rw [e1] at e2
    rw [t1, t2, t3, I.nm] at e2
    have hdV : dV = .none := by
      rcases e4 with ⟨_, z⟩ | ⟨z, _⟩
      · exact z
      · exact absurd rfl z
    subst hdV
    exact ⟨_, oc, od, kV, doc, pm, an, cdv, ct, osl, p1, p2, q1, q2, q3, q4, e2, e3⟩
end Uk
end
section
set_option Elab.async false
set_option linter.all false
set_option maxRecDepth 100000
set_option autoImplicit false
set_option maxHeartbeats 2000000
namespace Uk
open PySem PySem.Spec PyProof.Rows L2
open PySem.W (Frag nsIn findIn specialIn takesIn mroIn kitOne keepIn isFn subIn typeIn hasDictIn exmOne recIn notFirst codeIn nsOkIn)
/-! ## All of the written part -/
def defB (d : PgD) (K : Frag) (e : DE) : Bool := if e.k = "" then (He.Fa.glo (sS e.f)).ok K else if d.prop.contains (e.k, e.f) then propB K e.k e.f else (He.Fa.meth (sS e.k) (sS e.f)).ok K
def gfB (d : PgD) (K : Frag) : Bool := (d.cons.all (conB K)) && (bnames.all fun x => (He.Fa.free (sS x)).ok K) && (d.ds.all fun q => defB d K q.1) && (d.cls.all (clsB d K)) && (d.exns.all fun q => (He.Fa.glo (sS q.1)).ok K && match q.2 with
    | some f => exB K q.1 f
    | none => true) && (d.exns.all fun q => d.exns.all fun p => decide (exmOne K (.ref (gaS K q.1)) (.ref (gaS K p.1)) = some (q.1 == p.1))) && (d.cls.all fun k => d.cls.all fun k' => decide (kitOne K (.ref (gaS K k)) (.ref (gaS K k')) = some (k == k')))
abbrev AlU : Type := Bool × List He.FnW
def PgD.es (d : PgD) : List DE := d.ds.map (·.1) ++ d.xs
def obsU (d : PgD) (K : Frag) : AlU := (gfB d K && d.es.all fun e => e.ok K (defAd d K e), d.es.map fun e => fnV K (defAd d K e))
def valU (d : PgD) : AlU := (true, d.es.map DE.val)
def obsUG (n : Nat) (d : PgD) (g : Addr → Option Obj) : AlU := obsU d (He.frG g (He.asD g n))
def hookU (n : Nat) (d : PgD) : PySem.W.Hook where
  α := AlU
  obs := fun s => obsUG n d s.heap.get?
  val := fun _ => valU d
  says := fun _ h => ∃ K : Frag, K.In h ∧ obsU d K = valU d
  of := fun _ _ e => ⟨_, He.frG_in, e⟩
  keeps := fun _ _ _ ⟨K, hK, c⟩ k => ⟨K, PySem.W.Frag.In.keeps hK k, c⟩
theorem obsUG_eq {n : Nat} {d : PgD} {g : Addr → Option Obj} {s : Shared} (h : ∀ a, g a = s.heap.get? a) : obsUG n d g = (hookU n d).obs s := by
  have e : g = s.heap.get? := funext h
  rw [e] <;> rfl
/-- arguments go to the names, one by one -/
def BindP (e : DE) (ps : List Str) : Prop := ∀ (kV doc pm : Value) (an : Option Addr) (cdv ct : Value) (us : List Value), us.length = ps.length → bindArgs (PySem.W.fnOf (sS e.f) e.qual (defArgs e.st) (defBody e.st) (defScope e.st) .none kV doc pm an cdv ct) ⟨us, []⟩ = pure (ps.zip us)
def BindsAll : List (DE × FDef) → Prop
  | [] => True
  | q :: r => BindP q.1 (q.2.ps.map sS) ∧ BindsAll r
theorem BindsAll.in {l : List (DE × FDef)} (h : BindsAll l) {q : DE × FDef} (hq : q ∈ l) : BindP q.1 (q.2.ps.map sS) := by
  induction l with
  | nil => cases hq
  | cons a r ih =>
    rcases List.mem_cons.mp hq with rfl | hq
    · exact h.1
    · exact ih h.2 hq
/-- every error has its text -/
def ExAll (xs : List DE) : List (String × Option String) → Prop
  | [] => True
  | (k, some f) :: r => (∃ e ∈ xs, e.k = k ∧ ExI e f) ∧ ExAll xs r
  | (_, none) :: r => ExAll xs r
theorem ExAll.in {xs : List DE} : ∀ {l : List (String × Option String)}, ExAll xs l → ∀ {k f : String}, (k, some f) ∈ l → ∃ e ∈ xs, e.k = k ∧ ExI e f
  | [], _, _, _, hq => by cases hq
  | (k0, some f0) :: r, h, k, f, hq => by
    rcases List.mem_cons.mp hq with e | hq
    · cases e; exact h.1
    · exact ExAll.in h.2 hq
  | (k0, none) :: r, h, k, f, hq => by
    rcases List.mem_cons.mp hq with e | hq
    · cases e
    · exact ExAll.in (l := r) h hq
/-- what is plain of a program's data: its defs read as the text, arguments bind, errors are written out, no class without a name, properties are no errors' -/
structure Good (d : PgD) : Prop where
  ck : (d.ds.all fun q => ckD (pgOf d) (defArgs q.1.st) (defBody q.1.st) (defScope q.1.st) q.2) = true
  bi : BindsAll d.ds
  ex : ExAll d.xs d.exns
  nk : d.cls.contains "" = false
  px : (d.exns.all fun q => !d.prop.contains (q.1, "__init__")) = true
section
variable {d : PgD} {K : Frag} {h : Heap} {mg : Str → Option Value}
theorem def_of (c : obsU d K = valU d) {e : DE} (he : e ∈ d.es) : ∃ dt, FunD K (sS e.f) e.qual (defArgs e.st) (defBody e.st) (defScope e.st) [] [] (defAd d K e) dt := by
  have c1 : (gfB d K && d.es.all fun e => e.ok K (defAd d K e)) = true := congrArg (fun z : AlU => z.1) c
  have c2 : d.es.map (fun e => fnV K (defAd d K e)) = d.es.map DE.val := congrArg (fun z : AlU => z.2) c
  rw [Bool.and_eq_true, List.all_eq_true] at c1
  exact DE.funD (List.map_inj_left.mp c2 e he) (c1.2 e he)
theorem fnAt_of (G : Good d) (c : obsU d K = valU d) {q : DE × FDef} (hq : q ∈ d.ds) : ∃ dt, FnAt K (ckD (pgOf d)) q.2 (defAd d K q.1) dt := by
  obtain ⟨dt, F⟩ := def_of c (e := q.1) (List.mem_append_left _ (List.mem_map.mpr ⟨q, hq, rfl⟩))
  exact ⟨dt, ⟨_, _, _, _, _, _, _, F, List.all_eq_true.mp G.ck q hq⟩, FunD.bindsN F (G.bi.in hq)⟩
theorem gf_of (G : Good d) (X : K.In h) (hm : h.Ns mainGlobals mg) (c : obsU d K = valU d) : GF K mg (ckD (pgOf d)) (pgOf d) := by
  have c1 : (gfB d K && d.es.all fun e => e.ok K (defAd d K e)) = true := congrArg (fun z : AlU => z.1) c
  rw [Bool.and_eq_true] at c1
  have c1 := c1.1
  unfold gfB at c1
  simp only [Bool.and_eq_true, List.all_eq_true, decide_eq_true_eq] at c1
  obtain ⟨⟨⟨⟨⟨⟨g1, g2⟩, g3⟩, g4⟩, g5⟩, g6⟩, g7⟩ := c1
  have clsM : ∀ {k : String}, (pgOf d).cls k = true → k ∈ d.cls := fun {k} hk => by
    have : d.cls.contains k = true := hk
    simpa using this
  have clsG : ∀ {k : String}, (pgOf d).cls k = true → mg (sS k) = some (.ref (gaS K k)) := fun {k} hk => by
    have := g4 k (clsM hk)
    unfold clsB at this
    simp only [Bool.and_eq_true] at this
    exact He.glo_ok X hm this.1.1.1.1.1.1.1.1.1.1
  have clsN : ∀ {k : String}, (pgOf d).cls k = true → k ≠ "" := fun {k} hk e => by
    rw [e] at hk
    have := G.nk
    rw [show d.cls.contains "" = true from hk] at this
    cases this
  refine ⟨fun x dd hx => ?_, fun x hx => He.free_ok X hm (g2 x hx), fun f fd hf => ?_, fun k hk => ⟨_, clsG hk, clsB_ok (g4 k (clsM hk))⟩, fun k m fd C hk hf hp hC => ?_, fun k m fd C hk hf hp hC => ?_, fun k f hf => ?_, fun k k' f f' C C' h1 h2 h3 h4 => ?_, fun k k' C C' h1 h2 h3 h4 => ?_⟩
  · have h1 := g1 (x, dd) (lookup_in (show d.cons.lookup x = some dd from hx))
    unfold conB at h1
    split at h1
    · rename_i u hu
      obtain ⟨v, hr, hv⟩ := valB_ok dd u h1
      exact ⟨v, u, PySem.W.mg_of X hm hu, hr, hv⟩
    · cases h1
  · obtain ⟨q, hq, e1, e2, e3⟩ := PgD.fn_in hf
    obtain ⟨dt, F⟩ := fnAt_of G c hq
    have h1 := g3 q hq
    unfold defB at h1
    rw [if_pos e1] at h1
    have had : defAd d K q.1 = gaS K f := by unfold defAd; rw [if_pos e1, e2]
    rw [had, e3] at F
    rw [e2] at h1
    exact ⟨_, dt, He.glo_ok X hm h1, F⟩
  · obtain ⟨q, hq, e1, e2, e3⟩ := PgD.fn_in hf
    obtain ⟨dt, F⟩ := fnAt_of G c hq
    have h1 := g3 q hq
    have hk0 : ¬ q.1.k = "" := by rw [e1]; exact clsN hk
    have hp0 : d.prop.contains (q.1.k, q.1.f) = false := by rw [e1, e2]; exact hp
    unfold defB at h1
    rw [if_neg hk0, hp0] at h1
    have had : defAd d K q.1 = He.ma K (gaS K k) (sS m) := by
      unfold defAd
      rw [if_neg hk0, hp0, e1, e2]
      rfl
    rw [had, e3] at F
    rw [e1, e2] at h1
    have hC2 := clsG hk
    rw [hC] at hC2
    cases hC2
    exact ⟨_, dt, He.meth_ok h1, F⟩
  · obtain ⟨q, hq, e1, e2, e3⟩ := PgD.fn_in hf
    obtain ⟨dt, F⟩ := fnAt_of G c hq
    have h1 := g3 q hq
    have hk0 : ¬ q.1.k = "" := by rw [e1]; exact clsN hk
    have hp0 : d.prop.contains (q.1.k, q.1.f) = true := by rw [e1, e2]; exact hp
    unfold defB at h1
    rw [if_neg hk0, hp0] at h1
    have had : defAd d K q.1 = getter K (He.ma K (gaS K k) (sS m)) := by
      unfold defAd
      rw [if_neg hk0, hp0, e1, e2]
      rfl
    rw [had, e3] at F
    rw [e1, e2] at h1
    have hC2 := clsG hk
    rw [hC] at hC2
    cases hC2
    obtain ⟨p, hp1⟩ := propB_ok h1
    exact ⟨p, _, dt, hp1, F⟩
  · have hm1 := lookup_in (show d.exns.lookup k = some (some f) from hf)
    have h1 := g5 (k, some f) hm1
    obtain ⟨e, he, ek, I⟩ := G.ex.in hm1
    obtain ⟨dt, F⟩ := def_of c (e := e) (List.mem_append_right _ he)
    subst ek
    have hpx := List.all_eq_true.mp G.px (e.k, some f) hm1
    have hpx : (!d.prop.contains (e.k, "__init__")) = true := hpx
    rw [Bool.not_eq_true'] at hpx
    exact ⟨_, _, He.glo_ok X hm h1.1, exB_ok h1.2 I (by rw [I.nm]; exact hpx) F, I.fn⟩
  · have m1 := lookup_in (show d.exns.lookup k = some f from h1)
    have m2 := lookup_in (show d.exns.lookup k' = some f' from h2)
    have a1 := He.glo_ok X hm (g5 _ m1).1
    have a2 := He.glo_ok X hm (g5 _ m2).1
    rw [show mg (sS k) = _ from h3] at a1
    rw [show mg (sS k') = _ from h4] at a2
    cases a1
    cases a2
    exact g6 _ m1 _ m2
  · have a1 := clsG h1
    have a2 := clsG h2
    rw [h3] at a1
    rw [h4] at a2
    cases a1
    cases a2
    exact g7 k (clsM h1) k' (clsM h2)
end
/-! ## A law -/
/-- the law's def answers True for every script -/
def Says (d : PgD) (n k : Nat) : Prop := ∀ ns : List Int, ns.length ≤ n → ∃ g, call (pgOf d) k "" "law" [.fro (ns.map D.int)] [] = .ok (.bl true) g
theorem vals_ints (K : Frag) (r : List Addr) (H : Hp) : ∀ ns : List Int, VRs K r H (ns.map D.int) (ns.map V.int)
  | [] => VRs.nil_iff.mpr rfl
  | n :: ns => .cons .int (vals_ints K r H ns)
theorem spec_of {d : PgD} {K : Frag} {mg : Str → Option Value} {n k : Nat} {fd : FDef} (hf : (pgOf d).fn "" "law" = some fd) (hp : fd.ps.length = 1) (S : Says d n k) (H : Hp) (a : Addr) (ns : List Int) (hl : ns.length ≤ n) (hS : FrL K H a (ns.map V.int)) :
    SpOf K mg fd.ps.length (call (pgOf d) k "" "law") [.ref a] H (fun v _ => v = .bl true) fun _ _ _ => False := by
  obtain ⟨g, hg⟩ := S ns hl
  refine ⟨by rw [hp]; rfl, [], [], [.fro (ns.map D.int)], ⟨rfl, .nil, fun i a o e => by simp at e⟩, .cons (by unfold VR; exact ⟨a, _, rfl, hS, vals_ints K [] H ns⟩) (VRs.nil_iff.mpr rfl), ?_⟩
  rw [hg]
  exact fun r' v H' x R q => q.bl_inv
theorem only_fr {K : Frag} {H : Hp} {a : Addr} {xs : List V} (ho : Only H) (hs : SqL K H a xs) : FrL K H a xs := by
  rcases hs with (h | ⟨o, h⟩) | h
  · rcases ho a with z | ⟨o, ys, z⟩
    · rw [h] at z; cases z
    · rw [h] at z; cases z
  · exact .inl ⟨o, h⟩
  · exact .inr h
theorem law_walk {d : PgD} {l : PySem.W.OpenLaw} {n k m : Nat} {q : Program} {loose : List Str} {XP : (Str → Option Value) → Heap → Prop} {df : DefRec} {e : DE} {fd : FDef} {x : String} (G : Good d) (he : (e, fd) ∈ d.ds) (hek : e.k = "") (hef : e.f = "law")
    (hf : (pgOf d).fn "" "law" = some fd) (hps : fd.ps = [x]) (hn : l.most = some n) (hn2 : n ≤ sizeLine) (hdf : df.params.defaults = []) (hname : df.name = sS "law") (hr : Room k callerA) (S : Says d n k) :
    PySem.W.WalkO q loose XP (hookU m d).says l.row.toRowW df [] (fun f vs => PySem.call f vs) := by
  refine Att.attach_call hn hdf fun w s₀ s₁ mg mb fa o pm cd doc a vs ns GT Y ho hd hcd hmg hobj hints hlen hg => ?_
  obtain ⟨K, KX, c⟩ := Y
  have gf := gf_of G KX GT.T.g c
  obtain ⟨dt, F⟩ := def_of c (e := e) (List.mem_append_left _ (List.mem_map.mpr ⟨_, he, rfl⟩))
  obtain ⟨dt2, F2⟩ := fnAt_of G c he
  have had : defAd d K e = fa := by
    obtain ⟨a2, dt3, h1, h2⟩ := gf.fn "law" fd hf
    have h3 : mg (sS "law") = some (.ref fa) := by rw [← hname]; exact hmg
    have c1 : (gfB d K && d.es.all fun e => e.ok K (defAd d K e)) = true := congrArg (fun z : AlU => z.1) c
    rw [Bool.and_eq_true] at c1
    have c1 := c1.1
    unfold gfB at c1
    simp only [Bool.and_eq_true, List.all_eq_true, decide_eq_true_eq] at c1
    have g3 := c1.1.1.1.1.2 (e, fd) he
    unfold defB at g3
    rw [if_pos hek, hef] at g3
    have h4 := He.glo_ok KX GT.T.g g3
    rw [h3] at h4
    unfold defAd
    rw [if_pos hek, hef]
    cases h4
    rfl
  rw [had] at F F2
  have bb : ∀ (s : Shared) (u : Value), BindsTo s dt ⟨[u], []⟩ [(sS x, u)] := fun s u => by
    have := FunD.bindsA (ps := fd.ps.map sS) F (G.bi.in he) s [u] (by rw [hps]; rfl)
    rw [hps] at this
    exact this
  have edt : dt2 = dt := by
    obtain ⟨⟨_, _, _, _, _, _, _, F3, _⟩, _⟩ := F2
    obtain ⟨_, _, _, _, _, _, _, _, _, _, _, l1, _⟩ := F.ex
    obtain ⟨_, _, _, _, _, _, _, _, _, _, _, l2, _⟩ := F3.ex
    rw [l1] at l2
    cases l2
    rfl
  subst edt
  refine law_call (CX := L2.CX l.prog w) (sp := SpOf K mg fd.ps.length (call (pgOf d) k "" "law")) KX GT.T.g GT.T.b GT.T.builtins GT.T.nolimit hg hobj hints (Nat.le_trans hlen hn2) hr (fun base hb1 hb2 => ?_) bb (fun H hO hS => spec_of hf (by rw [hps]; rfl) S H a ns hlen (only_fr hO hS)) fun H ee s' z => ?_
  · have := all_calls (prog := l.prog) (w := w) (base := base) gf k "" "law" fd fa dt2 hf F2
    rw [hps] at this ⊢
    exact this
  · obtain ⟨_, _, _, _, _, _, _, _, _, _, _, _, z⟩ := z
    exact z.elim
end Uk
end
section
set_option Elab.async false
set_option linter.all false
set_option maxRecDepth 100000
set_option autoImplicit false
set_option maxHeartbeats 1000000
namespace UkW
open Uk
/-! ## Runs of the interpreter, told plainly -/
/-- r ends well, in Q -/
def Ok {α : Type} (r : R α) (Q : α → G → Prop) : Prop := match r with
  | .ok a g => Q a g
  | _ => False
@[simp] theorem Ok_ok {α : Type} (a : α) (g : G) (Q : α → G → Prop) : Ok (.ok a g) Q = Q a g := rfl
@[simp] theorem Ok_bad {α : Type} (Q : α → G → Prop) : Ok (.bad : R α) Q = False := rfl
@[simp] theorem Ok_bind {α β : Type} (r : R α) (k : α → G → R β) (Q : β → G → Prop) : Ok (r.bind k) Q = Ok r (fun a g => Ok (k a g) Q) := by
  cases r <;> rfl
theorem Ok.mono {α : Type} {r : R α} {Q Q' : α → G → Prop} (h : Ok r Q) (k : ∀ a g, Q a g → Q' a g) : Ok r Q' := by
  cases r with
  | ok a g => exact k a g h
  | exc _ _ => exact h
  | bad => exact h
theorem Ok.to {α : Type} {r : R α} {Q : α → G → Prop} (h : Ok r Q) : ∃ a g, r = .ok a g ∧ Q a g := by
  cases r with
  | ok a g => exact ⟨a, g, rfl, h⟩
  | exc _ _ => exact h.elim
  | bad => exact h.elim
@[simp] theorem bind_ok {α β : Type} (a : α) (g : G) (k : α → G → R β) : (R.ok a g).bind k = k a g := rfl
theorem call_eq (P : Pg) (n : Nat) (k f : String) (args : List D) (g : G) : call P (n + 1) k f args g = match P.fn k f with
    | some fd => runF ⟨P, call P n, call P (n - 1), none⟩ fd args g
    | none => .bad := by
  cases n with
  | zero => rfl
  | succ n => rfl
theorem call_fn {P : Pg} {n : Nat} {k f : String} {fd : FDef} (h : P.fn k f = some fd) (args : List D) (g : G) : call P (n + 1) k f args g = runF ⟨P, call P n, call P (n - 1), none⟩ fd args g := by
  rw [call_eq, h]
/-- a body's run -/
theorem runF_ok {c : Cx} {fd : FDef} {args : List D} {g : G} {Q : D → G → Prop} (hl : args.length = fd.ps.length) (h : Ok (exs c fd.body (args.map some ++ List.replicate (fd.N.length - args.length) none) g) fun z g => match z.2 with
    | .nx => Q .non g
    | .rt d => Q d g) : Ok (runF c fd args g) Q := by
  unfold runF
  rw [if_pos hl, Ok_bind]
  refine h.mono fun z g q => ?_
  obtain ⟨e, f⟩ := z
  cases f <;> exact q
/-! ### operations on plain values -/
@[simp] theorem orElse_some {α : Type} (a : α) (k : α → R D) : orElse (some a) k = k a := rfl
@[simp] theorem orElse_none {α : Type} (k : α → R D) : orElse none k = .bad := rfl
@[simp] theorem atI_0 {α : Type} (x : α) (r : List α) : atI (x :: r) 0 = some x := by unfold atI sIx; simp
@[simp] theorem atI_1 {α : Type} (x y : α) (r : List α) : atI (x :: y :: r) 1 = some y := by
  unfold atI sIx
  rw [if_pos (by decide), if_pos (by simp only [List.length_cons]; omega)]
  rfl
@[simp] theorem atI_2 {α : Type} (x y z : α) (r : List α) : atI (x :: y :: z :: r) 2 = some z := by
  unfold atI sIx
  rw [if_pos (by decide), if_pos (by simp only [List.length_cons]; omega)]
  rfl
@[simp] theorem atI_3 {α : Type} (x y z u : α) (r : List α) : atI (x :: y :: z :: u :: r) 3 = some u := by
  unfold atI sIx
  rw [if_pos (by decide), if_pos (by simp only [List.length_cons]; omega)]
  rfl
theorem atI_nat {α : Type} (xs : List α) (i : Nat) (h : i < xs.length) : atI xs (i : Int) = xs[i]? := by
  unfold atI sIx
  rw [if_pos (by omega), if_pos (by omega)]
  simp
theorem atI_int {α : Type} (xs : List α) (t : Int) (h0 : 0 ≤ t) (h : t < xs.length) : ∃ x, atI xs t = some x ∧ x ∈ xs ∧ xs[t.toNat]? = some x := by
  have hl : t.toNat < xs.length := by omega
  refine ⟨xs[t.toNat], ?_, List.getElem_mem hl, List.getElem?_eq_getElem hl⟩
  unfold atI sIx
  rw [if_pos h0, if_pos h]
  simp [hl]
@[simp] theorem getIx_tup (xs : List D) (k : Int) (g : G) : getIx (.tup xs) (.int k) g = orElse (atI xs k) fun v => .ok v g := rfl
theorem getIx_ref {g : G} {a : Nat} {xs : List D} (h : g[a]? = some (.lst xs)) (k : Int) : getIx (.ref a) (.int k) g = orElse (atI xs k) fun v => .ok v g := by
  unfold getIx
  dsimp only
  rw [h]
@[simp] theorem lsOf_eq {g : G} {a : Nat} {xs : List D} (h : g[a]? = some (.lst xs)) : lsOf g a = some xs := by
  unfold lsOf
  rw [h]
  rfl
@[simp] theorem add_int (i j : Int) (g : G) : binop .add (.int i) (.int j) g = .ok (.int (i + j)) g := rfl
@[simp] theorem sub_int (i j : Int) (g : G) : binop .sub (.int i) (.int j) g = .ok (.int (i - j)) g := rfl
@[simp] theorem add_tup (xs ys : List D) (g : G) : binop .add (.tup xs) (.tup ys) g = newT (xs ++ ys) g := rfl
theorem add_ref {g : G} {a b : Nat} {xs ys : List D} (ha : g[a]? = some (.lst xs)) (hb : g[b]? = some (.lst ys)) : binop .add (.ref a) (.ref b) g = newL (xs ++ ys) g := by
  unfold binop
  dsimp only
  rw [lsOf_eq ha, lsOf_eq hb]
theorem mul_small (i j : Int) (g : G) (h : -(2 ^ 64) < j ∧ j < 2 ^ 64) : binop .mul (.int i) (.int j) g = .ok (.int (i * j)) g := by
  show (if mulOk i j then _ else _) = _
  rw [if_pos]
  unfold mulOk
  rw [decide_eq_true h.1, decide_eq_true h.2]
  simp
theorem fdiv_pos (i j : Int) (g : G) (h : 0 < j ∧ j < 1073741824) : binop .fdiv (.int i) (.int j) g = .ok (.int (i / j)) g := if_pos h
theorem mod_pos (i j : Int) (g : G) (h : 0 < j) : binop .mod (.int i) (.int j) g = .ok (.int (i % j)) g := if_pos h
theorem newT_ok {ds : List D} (h : ds.length ≤ line) (g : G) : newT ds g = .ok (.tup ds) g := if_pos h
theorem newL_ok {ds : List D} (h : ds.length ≤ line) (g : G) : newL ds g = .ok (.ref g.length) (g ++ [.lst ds]) := if_pos h
@[simp] theorem line_is : line = 16777216 := rfl
@[simp] theorem newT_n (g : G) : newT [] g = .ok (.tup []) g := newT_ok (by simp) g
@[simp] theorem newT_1 (a : D) (g : G) : newT [a] g = .ok (.tup [a]) g := newT_ok (by simp) g
@[simp] theorem newT_2 (a b : D) (g : G) : newT [a, b] g = .ok (.tup [a, b]) g := newT_ok (by simp) g
@[simp] theorem newT_3 (a b c : D) (g : G) : newT [a, b, c] g = .ok (.tup [a, b, c]) g := newT_ok (by simp) g
@[simp] theorem newT_4 (a b c d : D) (g : G) : newT [a, b, c, d] g = .ok (.tup [a, b, c, d]) g := newT_ok (by simp) g
@[simp] theorem newL_n (g : G) : newL [] g = .ok (.ref g.length) (g ++ [.lst []]) := newL_ok (by simp) g
@[simp] theorem newL_1 (a : D) (g : G) : newL [a] g = .ok (.ref g.length) (g ++ [.lst [a]]) := newL_ok (by simp) g
@[simp] theorem newL_2 (a b : D) (g : G) : newL [a, b] g = .ok (.ref g.length) (g ++ [.lst [a, b]]) := newL_ok (by simp) g
@[simp] theorem newL_3 (a b c : D) (g : G) : newL [a, b, c] g = .ok (.ref g.length) (g ++ [.lst [a, b, c]]) := newL_ok (by simp) g
@[simp] theorem sIx_0 (n : Nat) : sIx (n + 1) 0 = some 0 := by
  unfold sIx
  rw [if_pos (by decide), if_pos (by omega)]
  rfl
@[simp] theorem sIx_1 (n : Nat) : sIx (n + 1 + 1) 1 = some 1 := by
  unfold sIx
  rw [if_pos (by decide), if_pos (by omega)]
  rfl
@[simp] theorem mul31 (i : Int) (g : G) : binop .mul (.int i) (.int 31) g = .ok (.int (i * 31)) g := mul_small _ _ _ (by decide)
@[simp] theorem mul48271 (i : Int) (g : G) : binop .mul (.int i) (.int 48271) g = .ok (.int (i * 48271)) g := mul_small _ _ _ (by decide)
@[simp] theorem mod2147483647 (i : Int) (g : G) : binop .mod (.int i) (.int 2147483647) g = .ok (.int (i % 2147483647)) g := mod_pos _ _ _ (by decide)
@[simp] theorem fdiv64 (i : Int) (g : G) : binop .fdiv (.int i) (.int 64) g = .ok (.int (i / 64)) g := fdiv_pos _ _ _ (by decide)
@[simp] theorem bi_int (c : Cx) (i : Int) (g : G) : builtin c .int [.int i] g = .ok (.int i) g := rfl
@[simp] theorem bi_abs (c : Cx) (i : Int) (g : G) : builtin c .abs [.int i] g = .ok (.int (if i < 0 then -i else i)) g := rfl
theorem set_ref {g : G} {a : Nat} {xs : List D} (h : g[a]? = some (.lst xs)) (k : Int) (v : D) : setSub (.ref a) (.int k) v g = match sIx xs.length k with
    | some j => .ok () (g.set a (.lst (xs.set j v)))
    | none => .bad := by
  unfold setSub
  dsimp only
  rw [h]
  try rfl
theorem kind_lst {P : Pg} {g : G} {a : Nat} {xs : List D} (h : g[a]? = some (.lst xs)) (m : String) : kindOf P (.ref a) m g = some .lst := by
  unfold kindOf
  dsimp only
  rw [h]
@[simp] theorem lm_app : LM.of "append" = some .append := by rfl
@[simp] theorem lm_ext : LM.of "extend" = some .extend := by rfl
@[simp] theorem lm_pop : LM.of "pop" = some .pop := by rfl
theorem app_ref {g : G} {a : Nat} {xs : List D} (h : g[a]? = some (.lst xs)) (hl : xs.length < line) (y : D) : listM (.ref a) .append [y] g = .ok .non (g.set a (.lst (xs ++ [y]))) := by
  unfold listM
  dsimp only
  rw [h]
  dsimp only
  rw [if_pos hl]
theorem ext_ref {g : G} {a b : Nat} {xs ys : List D} (h : g[a]? = some (.lst xs)) (h2 : g[b]? = some (.lst ys)) (hl : xs.length + ys.length ≤ line) : listM (.ref a) .extend [.ref b] g = .ok .non (g.set a (.lst (xs ++ ys))) := by
  unfold listM
  dsimp only
  rw [h]
  dsimp only
  rw [h2]
  dsimp only
  rw [if_pos hl]
theorem pop_ref {g : G} {a : Nat} {xs : List D} (h : g[a]? = some (.lst xs)) (i : Int) (hi : 0 ≤ i ∧ i < 1073741824) : listM (.ref a) .pop [.int i] g = orElse (xs[i.toNat]?) fun y => .ok y (g.set a (.lst (xs.eraseIdx i.toNat))) := by
  unfold listM
  dsimp only
  rw [h]
  dsimp only
  rw [if_pos hi]
/-! ### comparisons -/
@[simp] theorem lt_int (c : Cx) (i j : Int) (g : G) : cmpop c .lt (.int i) (.int j) g = .ok (.bl (decide (i < j))) g := rfl
@[simp] theorem le_int (c : Cx) (i j : Int) (g : G) : cmpop c .le (.int i) (.int j) g = .ok (.bl (decide (i ≤ j))) g := rfl
@[simp] theorem gt_int (c : Cx) (i j : Int) (g : G) : cmpop c .gt (.int i) (.int j) g = .ok (.bl (decide (j < i))) g := rfl
@[simp] theorem ge_int (c : Cx) (i j : Int) (g : G) : cmpop c .ge (.int i) (.int j) g = .ok (.bl (decide (j ≤ i))) g := rfl
@[simp] theorem isn_eq (c : Cx) (x y : D) (g : G) : cmpop c .isn x y g = .ok (.bl x.isNon) g := rfl
@[simp] theorem notn_eq (c : Cx) (x y : D) (g : G) : cmpop c .notn x y g = .ok (.bl (!x.isNon)) g := rfl
theorem noref {x : D} (h : x.ok = true) : ∀ a, x ≠ .ref a := fun a e => by
  subst e
  have := of_decide_eq_true (show decide ((D.ref a).dep ≤ 60) = true from h)
  unfold D.dep at this
  omega
theorem eqF_data {g : G} {n : Nat} {x y : D} (hx : x.ok = true) (hy : y.ok = true) : eqF g (n + 1) x y = some (D.eqv x y) := by
  have h1 := noref hx
  have h2 := noref hy
  have h3 : (if (x.ok && y.ok) = true then some (D.eqv x y) else none) = some (D.eqv x y) := by rw [hx, hy]; rfl
  cases x with
  | ref a => exact absurd rfl (h1 a)
  | _ =>
    cases y with
    | ref b => exact absurd rfl (h2 b)
    | _ => exact h3
theorem eqOp_data (c : Cx) {g : G} {x y : D} (hx : x.ok = true) (hy : y.ok = true) : eqOp c x y g = .ok (D.eqv x y) g := by
  have e : eqOp c x y g = match eqF g 4 x y with
    | some b => .ok b g
    | none => .bad := by
    cases x with
    | ref a => exact absurd rfl (noref hx a)
    | _ => rfl
  rw [e, eqF_data hx hy]
theorem eq_data (c : Cx) {g : G} {x y : D} (hx : x.ok = true) (hy : y.ok = true) : cmpop c .eq x y g = .ok (.bl (D.eqv x y)) g := by
  show (eqOp c x y g).bind _ = _
  rw [eqOp_data c hx hy]
  rfl
theorem ne_data (c : Cx) {g : G} {x y : D} (hx : x.ok = true) (hy : y.ok = true) : cmpop c .ne x y g = .ok (.bl (!D.eqv x y)) g := by
  show (if neOk g x y then (eqOp c x y g).bind _ else _) = _
  have : neOk g x y = true := by
    cases x with
    | ref a => exact absurd rfl (noref hx a)
    | _ => rfl
  rw [if_pos this, eqOp_data c hx hy]
  rfl
@[simp] theorem ok_int (i : Int) : (D.int i).ok = true := Eq.trans rfl rfl
@[simp] theorem ok_bl (i : Bool) : (D.bl i).ok = true := Eq.trans rfl rfl
@[simp] theorem ok_str (i : String) : (D.str i).ok = true := Eq.trans rfl rfl
@[simp] theorem ok_non : D.non.ok = true := Eq.trans rfl rfl
theorem beq_dec {α : Type} [DecidableEq α] (a b : α) : (a == b) = decide (a = b) := by
  by_cases h : a = b
  · simp [h]
  · simp [h]
@[simp] theorem eqv_int (i j : Int) : D.eqv (.int i) (.int j) = decide (i = j) := by unfold D.eqv; exact beq_dec i j
@[simp] theorem eqv_str (i j : String) : D.eqv (.str i) (.str j) = decide (i = j) := by unfold D.eqv; exact beq_dec i j
@[simp] theorem eq_int (c : Cx) (i j : Int) (g : G) : cmpop c .eq (.int i) (.int j) g = .ok (.bl (decide (i = j))) g := by rw [eq_data c rfl rfl, eqv_int]
@[simp] theorem eq_str (c : Cx) (i j : String) (g : G) : cmpop c .eq (.str i) (.str j) g = .ok (.bl (decide (i = j))) g := by rw [eq_data c rfl rfl, eqv_str]
@[simp] theorem ne_int (c : Cx) (i j : Int) (g : G) : cmpop c .ne (.int i) (.int j) g = .ok (.bl (!decide (i = j))) g := by rw [ne_data c rfl rfl, eqv_int]
@[simp] theorem ne_bl (c : Cx) (i j : Bool) (g : G) : cmpop c .ne (.bl i) (.bl j) g = .ok (.bl (!(i == j))) g := by rw [ne_data c rfl rfl]; unfold D.eqv; rfl
@[simp] theorem eq_bl (c : Cx) (i j : Bool) (g : G) : cmpop c .eq (.bl i) (.bl j) g = .ok (.bl (i == j)) g := by rw [eq_data c rfl rfl]; unfold D.eqv; rfl
mutual
theorem eqv_refl : ∀ x : D, x.ok = true → D.eqv x x = true
  | .non, _ => rfl
  | .bl b, _ => by unfold D.eqv; simp
  | .int b, _ => by unfold D.eqv; simp
  | .str b, _ => by unfold D.eqv; simp
  | .tup xs, h => by
    unfold D.eqv
    refine eqvs_refl xs ?_
    have := of_decide_eq_true (show decide ((D.tup xs).dep ≤ 60) = true from h)
    unfold D.dep at this
    omega
  | .ref a, h => absurd rfl (noref h a)
  | .fro a, h => by
    have := of_decide_eq_true (show decide ((D.fro a).dep ≤ 60) = true from h)
    unfold D.dep at this
    omega
theorem eqvs_refl : ∀ xs : List D, D.deps xs ≤ 60 → D.eqvs xs xs = true
  | [], _ => rfl
  | x :: xs, h => by
    unfold D.deps at h
    unfold D.eqvs
    rw [eqv_refl x (decide_eq_true (by omega)), eqvs_refl xs (by omega)]
    rfl
end
/-! ### the heap -/
theorem get_app {g : G} {i : Nat} {o : O} (h : g[i]? = some o) (t : G) : (g ++ t)[i]? = some o := by
  rw [List.getElem?_append_left (List.getElem?_eq_some_iff.mp h).1]
  exact h
@[simp] theorem get_new (g : G) (o : O) : (g ++ [o])[g.length]? = some o := by simp
theorem get_set {g : G} {i : Nat} {o o' : O} (h : g[i]? = some o) : (g.set i o')[i]? = some o' := by
  rw [List.getElem?_set_self (List.getElem?_eq_some_iff.mp h).1]
theorem get_lt {g : G} {i : Nat} {o : O} (h : g[i]? = some o) : i < g.length := (List.getElem?_eq_some_iff.mp h).1
theorem len_ref {c : Cx} {g : G} {a : Nat} {xs : List D} (h : g[a]? = some (.lst xs)) : builtin c .len [.ref a] g = .ok (.int xs.length) g := by
  show lenOf c (.ref a) g = _
  unfold lenOf
  dsimp only
  rw [h]
@[simp] theorem len_tup (c : Cx) (xs : List D) (g : G) : builtin c .len [.tup xs] g = .ok (.int xs.length) g := rfl
@[simp] theorem cut_tup1 (x : D) (xs : List D) (g : G) : getCut (.tup (x :: xs)) (some 1) none g = newT xs g := by
  show newT (cutL (x :: xs) (sIxE (x :: xs).length 0 (some 1)) (sIxE (x :: xs).length (x :: xs).length none)) g = _
  have e1 : sIxE (x :: xs).length 0 (some 1) = 1 := by
    show (if (1 : Int) < 0 then ((1 : Int) + ((x :: xs).length : Int)).toNat else min (1 : Int).toNat (x :: xs).length) = 1
    rw [if_neg (by decide)]
    simp only [List.length_cons]
    show min 1 (xs.length + 1) = 1
    omega
  have e2 : sIxE (x :: xs).length (x :: xs).length none = xs.length + 1 := rfl
  rw [e1, e2]
  unfold cutL
  simp
@[simp] theorem isnC_non : isnC (.cst .non) = true := rfl
@[simp] theorem isnC_int (i : Int) : isnC (.cst (.int i)) = false := rfl
@[simp] theorem isnC_loc (i : Nat) : isnC (.loc i) = false := rfl
@[simp] theorem isnC_bin (o : Bop) (a b : E) : isnC (.bin o a b) = false := rfl
@[simp] theorem isnC_neg (a : E) : isnC (.neg a) = false := rfl
@[simp] theorem int?_non : D.non.int? = none := rfl
@[simp] theorem int?_int (i : Int) : (D.int i).int? = some i := rfl
@[simp] theorem walk_tup (xs : List D) (g : G) : walkOf (.tup xs) g = some (xs.length, .tup xs) := rfl
@[simp] theorem walk_fro (xs : List D) (g : G) : walkOf (.fro xs) g = some (xs.length, .fro xs) := rfl
theorem walk_ref {g : G} {a : Nat} {xs : List D} (h : g[a]? = some (.lst xs)) : walkOf (.ref a) g = some (xs.length, .seq a) := by
  unfold walkOf
  dsimp only
  rw [lsOf_eq h]
  rfl
@[simp] theorem enum_tup (xs : List D) (g : G) : enumOf (.tup xs) g = some (xs.length, .etup xs) := rfl
theorem enum_ref {g : G} {a : Nat} {xs : List D} (h : g[a]? = some (.lst xs)) : enumOf (.ref a) g = some (xs.length, .eseq a) := by
  unfold enumOf
  dsimp only
  rw [lsOf_eq h]
  rfl
theorem rng1_ok (n : Nat) (h : n < 1073741824) : rng1 (.int n) = some (n, .rng 0 1) := by
  unfold rng1
  dsimp only
  rw [if_pos (by omega)]
  simp
theorem item_tup {xs : List D} {i n : Nat} (h : i < xs.length) (g : G) : (Wk.tup xs).item n i g = some (some xs[i]) := by
  show some xs[i]? = _
  rw [List.getElem?_eq_getElem h]
theorem item_tup_end {xs : List D} {n : Nat} (g : G) : (Wk.tup xs).item n xs.length g = some none := by
  show some xs[xs.length]? = _
  rw [List.getElem?_eq_none (Nat.le_refl _)]
theorem item_etup {xs : List D} {i n : Nat} (h : i < xs.length) (g : G) : (Wk.etup xs).item n i g = some (some (.tup [.int i, xs[i]])) := by
  show some (xs[i]?.map _) = _
  rw [List.getElem?_eq_getElem h]
  rfl
theorem item_etup_end {xs : List D} {n : Nat} (g : G) : (Wk.etup xs).item n xs.length g = some none := by
  show some (xs[xs.length]?.map _) = _
  rw [List.getElem?_eq_none (Nat.le_refl _)]
  rfl
theorem item_seq {xs : List D} {i n a : Nat} {g : G} (ha : g[a]? = some (.lst xs)) (h : i < xs.length) : (Wk.seq a).item n i g = some (some xs[i]) := by
  show (lsOf g a).map _ = _
  rw [lsOf_eq ha]
  show some xs[i]? = _
  rw [List.getElem?_eq_getElem h]
theorem item_seq_end {xs : List D} {n a : Nat} {g : G} (ha : g[a]? = some (.lst xs)) : (Wk.seq a).item n xs.length g = some none := by
  show (lsOf g a).map _ = _
  rw [lsOf_eq ha]
  show some xs[xs.length]? = _
  rw [List.getElem?_eq_none (Nat.le_refl _)]
theorem item_eseq {xs : List D} {i n a : Nat} {g : G} (ha : g[a]? = some (.lst xs)) (h : i < xs.length) : (Wk.eseq a).item n i g = some (some (.tup [.int i, xs[i]])) := by
  show (lsOf g a).map _ = _
  rw [lsOf_eq ha]
  show some (xs[i]?.map _) = _
  rw [List.getElem?_eq_getElem h]
  rfl
theorem item_eseq_end {xs : List D} {n a : Nat} {g : G} (ha : g[a]? = some (.lst xs)) : (Wk.eseq a).item n xs.length g = some none := by
  show (lsOf g a).map _ = _
  rw [lsOf_eq ha]
  show some (xs[xs.length]?.map _) = _
  rw [List.getElem?_eq_none (Nat.le_refl _)]
  rfl
theorem item_rng {n i : Nat} (h : i < n) (g : G) : (Wk.rng 0 1).item n i g = some (some (.int i)) := by
  show some (if i < n then _ else _) = _
  rw [if_pos h]
  simp
theorem item_rng_end {n : Nat} (g : G) : (Wk.rng 0 1).item n n g = some none := by
  show some (if n < n then _ else _) = _
  rw [if_neg (Nat.lt_irrefl _)]
theorem take_next {α : Type} {xs : List α} {i : Nat} (h : i < xs.length) : xs.take (i + 1) = xs.take i ++ [xs[i]] := by
  rw [List.take_succ, List.getElem?_eq_getElem h]
  rfl
/-! ### walks -/
/-- for: an invariant I by the turn; Rt what a return has to say -/
theorem for_inv {w : Wk} {t : Tg} {body : Env → G → RS} {n : Nat} (I : Nat → Env → G → Prop) (Rt : D → G → Prop)
    (step : ∀ i δ g, i < n → I i δ g → ∃ x δ1, w.item n i g = some (some x) ∧ bindT t x δ = some δ1 ∧ Ok (body δ1 g) fun z g' => match z.2 with
      | .nx => I (i + 1) z.1 g'
      | .rt d => Rt d g') (stop : ∀ δ g, I n δ g → w.item n n g = some none) :
    ∀ (k i : Nat) (δ : Env) (g : G), i + k = n → I i δ g → Ok (forL w n t body k i δ g) fun z g' => match z.2 with
      | .nx => I n z.1 g'
      | .rt d => Rt d g'
  | 0, i, δ, g, h, hI => by
    have : i = n := by omega
    subst this
    unfold forL
    rw [stop δ g hI]
    exact hI
  | k + 1, i, δ, g, h, hI => by
    obtain ⟨x, δ1, h0, h1, h2⟩ := step i δ g (by omega) hI
    unfold forL
    rw [h0]
    dsimp only
    rw [h1]
    dsimp only
    rw [Ok_bind]
    refine h2.mono fun z g' hz => ?_
    obtain ⟨e2, f⟩ := z
    cases f with
    | nx => exact for_inv I Rt step stop k (i + 1) e2 g' (by omega) hz
    | rt d => exact hz
/-- a comprehension: the list at p as it grows -/
theorem comp_inv {w : Wk} {turn : D → G → R (Option D)} {n p : Nat} (I : Nat → List D → G → Prop) (step : ∀ i acc g, i < n → I i acc g → g[p]? = some (.lst acc) → ∃ x, w.item n i g = some (some x) ∧ Ok (turn x g) fun z g' => match z with
      | none => I (i + 1) acc g' ∧ g'[p]? = some (.lst acc)
      | some y => g'[p]? = some (.lst acc) ∧ acc.length < line ∧ I (i + 1) (acc ++ [y]) (g'.set p (.lst (acc ++ [y])))) (stop : ∀ acc g, I n acc g → w.item n n g = some none) :
    ∀ (k i : Nat) (acc : List D) (g : G), i + k = n → I i acc g → g[p]? = some (.lst acc) → Ok (compL w n p turn k i g) fun _ g' => ∃ acc', I n acc' g' ∧ g'[p]? = some (.lst acc')
  | 0, i, acc, g, h, hI, hp => by
    have : i = n := by omega
    subst this
    unfold compL
    rw [stop acc g hI]
    exact ⟨acc, hI, hp⟩
  | k + 1, i, acc, g, h, hI, hp => by
    obtain ⟨x, h0, h2⟩ := step i acc g (by omega) hI hp
    unfold compL
    rw [h0]
    dsimp only
    obtain ⟨z, g1, e1, h3⟩ := h2.to
    rw [e1]
    cases z with
    | none => exact comp_inv I step stop k (i + 1) acc g1 (by omega) h3.1 h3.2
    | some y =>
      dsimp only
      rw [h3.1]
      dsimp only
      rw [if_pos h3.2.1]
      exact comp_inv I step stop k (i + 1) (acc ++ [y]) _ (by omega) h3.2.2 (get_set h3.1)
theorem set_ne {g : G} {i j : Nat} {o o' : O} (h : g[j]? = some o) (hj : j ≠ i) : (g.set i o')[j]? = some o := by
  rw [List.getElem?_set_ne (Ne.symm hj)]
  exact h
/-! ### heaps that grow -/
def Gr (g g' : G) : Prop := ∃ t, g' = g ++ t
theorem Gr.refl (g : G) : Gr g g := ⟨[], by simp⟩
theorem Gr.trans {a b c : G} (h : Gr a b) (h2 : Gr b c) : Gr a c := by
  obtain ⟨t, rfl⟩ := h
  obtain ⟨u, rfl⟩ := h2
  exact ⟨t ++ u, by rw [List.append_assoc]⟩
theorem Gr.app (g t : G) : Gr g (g ++ t) := ⟨t, rfl⟩
theorem Gr.get {g g' : G} (h : Gr g g') {i : Nat} {o : O} (e : g[i]? = some o) : g'[i]? = some o := by
  obtain ⟨t, rfl⟩ := h
  exact get_app e t
theorem Gr.len {g g' : G} (h : Gr g g') : g.length ≤ g'.length := by
  obtain ⟨t, rfl⟩ := h
  simp
theorem Gr.set {g g' : G} (h : Gr g g') {i : Nat} (hi : g.length ≤ i) (o : O) : Gr g (g'.set i o) := by
  obtain ⟨t, rfl⟩ := h
  exact ⟨t.set (i - g.length) o, by rw [List.set_append_right _ _ hi]⟩
/-- a new list -/
def NewL (g : G) (xs : List D) (v : D) (g' : G) : Prop := ∃ j, v = .ref j ∧ Gr g g' ∧ g.length ≤ j ∧ g'[j]? = some (.lst xs)
theorem NewL.mk {g : G} {xs : List D} : NewL g xs (.ref g.length) (g ++ [.lst xs]) := ⟨_, rfl, .app _ _, Nat.le_refl _, get_new _ _⟩
theorem NewL.mono {g g0 : G} {xs : List D} {v : D} {g' : G} (h : NewL g xs v g') (h0 : Gr g0 g) : NewL g0 xs v g' := by
  obtain ⟨j, a, b, c, d⟩ := h
  exact ⟨j, a, h0.trans b, Nat.le_trans h0.len c, d⟩
/-- a comprehension whose turns only make new things -/
theorem comp_fm {w : Wk} {turn : D → G → R (Option D)} {g0 : G} {xs : List D} {n : Nat} (f : D → Option D) (hn : n = xs.length) (hw : ∀ g', Gr g0 g' → ∀ i, w.item n i g' = some xs[i]?) (hl : xs.length ≤ line)
    (ht : ∀ x, x ∈ xs → ∀ g', Gr g0 g' → Ok (turn x g') fun z g'' => z = f x ∧ Gr g' g'') : Ok (compL w n g0.length turn n 0 (g0 ++ [.lst []])) fun _ g' => Gr g0 g' ∧ g'[g0.length]? = some (.lst (xs.filterMap f)) := by
  subst hn
  refine Ok.mono (comp_inv (fun i acc g' => acc = (xs.take i).filterMap f ∧ Gr g0 g') ?step ?stop xs.length 0 [] _ (by simp) ⟨by simp, .app _ _⟩ (get_new _ _)) ?fin
  case stop =>
    rintro acc g ⟨_, h⟩
    rw [hw g h, List.getElem?_eq_none (Nat.le_refl _)]
  case step =>
    rintro i acc g hi ⟨rfl, h⟩ hp
    refine ⟨xs[i], by rw [hw g h, List.getElem?_eq_getElem hi], (ht _ (List.getElem_mem hi) g h).mono fun z g'' ⟨hz, h2⟩ => ?_⟩
    subst hz
    have hp2 := h2.get hp
    have e : (xs.take (i + 1)).filterMap f = (xs.take i).filterMap f ++ (match f xs[i] with
      | none => []
      | some y => [y]) := by
      rw [take_next hi, List.filterMap_append]
      congr 1
      rw [List.filterMap_cons]
      cases f xs[i] <;> rfl
    cases hf : f xs[i] with
    | none =>
      rw [hf] at e
      exact ⟨⟨by simpa using e.symm, h.trans h2⟩, hp2⟩
    | some y =>
      rw [hf] at e
      refine ⟨hp2, ?_, e.symm, (h.trans h2).set (Nat.le_refl _) _⟩
      have := List.length_filterMap_le f (xs.take i)
      have h3 : (xs.take i).length = i := by simp; omega
      omega
  case fin =>
    rintro _ g' ⟨acc, ⟨rfl, h⟩, hp⟩
    exact ⟨h, by simpa using hp⟩
theorem items_ref {g0 : G} {a n : Nat} {xs : List D} (h : g0[a]? = some (.lst xs)) : ∀ g', Gr g0 g' → ∀ i, (Wk.seq a).item n i g' = some xs[i]? := by
  intro g' hg i
  show (lsOf g' a).map _ = _
  rw [lsOf_eq (hg.get h)]
  rfl
theorem items_tup {g0 : G} {n : Nat} {xs : List D} : ∀ g', Gr g0 g' → ∀ i, (Wk.tup xs).item n i g' = some xs[i]? := fun _ _ _ => rfl
theorem items_fro {g0 : G} {n : Nat} {xs : List D} : ∀ g', Gr g0 g' → ∀ i, (Wk.fro xs).item n i g' = some xs[i]? := fun _ _ _ => rfl
theorem items_rng {g0 : G} {n : Nat} : ∀ g', Gr g0 g' → ∀ i, (Wk.rng 0 1).item n i g' = some (((List.range n).map fun (j : Nat) => D.int (j : Int))[i]?) := by
  intro g' _ i
  show some (if i < n then some (D.int (0 + 1 * i)) else none) = _
  rw [List.getElem?_map]
  by_cases h : i < n
  · rw [if_pos h, List.getElem?_range h]
    simp
  · rw [if_neg h, List.getElem?_eq_none (by simp; omega)]
    rfl
theorem all_ref {c : Cx} {g : G} {a : Nat} {bs : List Bool} (h : g[a]? = some (.lst (bs.map D.bl))) : builtin c .all [.ref a] g = .ok (.bl (bs.all id)) g := by
  show orElse ((lsOf g a).bind bools) _ = _
  rw [lsOf_eq h]
  have e : ∀ bs : List Bool, bools (bs.map D.bl) = some bs := by
    intro bs
    induction bs with
    | nil => rfl
    | cons b bs ih =>
      show (bools (bs.map D.bl)).map (b :: ·) = _
      rw [ih]
      rfl
  show orElse (bools (bs.map D.bl)) _ = _
  rw [e]
  rfl
/-! ### runs that may end by an error -/
def Res {α : Type} (r : R α) (Q : α → G → Prop) (X : Exn → G → Prop) : Prop := match r with
  | .ok a g => Q a g
  | .exc x g => X x g
  | .bad => False
@[simp] theorem Res_ok {α : Type} (a : α) (g : G) (Q : α → G → Prop) (X : Exn → G → Prop) : Res (.ok a g) Q X = Q a g := rfl
@[simp] theorem Res_exc {α : Type} (x : Exn) (g : G) (Q : α → G → Prop) (X : Exn → G → Prop) : Res (.exc x g : R α) Q X = X x g := rfl
@[simp] theorem Res_bad {α : Type} (Q : α → G → Prop) (X : Exn → G → Prop) : Res (.bad : R α) Q X = False := rfl
@[simp] theorem Res_bind {α β : Type} (r : R α) (k : α → G → R β) (Q : β → G → Prop) (X : Exn → G → Prop) : Res (r.bind k) Q X = Res r (fun a g => Res (k a g) Q X) X := by
  cases r <;> rfl
theorem Res.mono {α : Type} {r : R α} {Q Q' : α → G → Prop} {X X' : Exn → G → Prop} (h : Res r Q X) (k : ∀ a g, Q a g → Q' a g) (kx : ∀ x g, X x g → X' x g) : Res r Q' X' := by
  cases r with
  | ok a g => exact k a g h
  | exc x g => exact kx x g h
  | bad => exact h
theorem Ok.res {α : Type} {r : R α} {Q : α → G → Prop} {X : Exn → G → Prop} (h : Ok r Q) : Res r Q X := by
  cases r with
  | ok a g => exact h
  | exc _ _ => exact h.elim
  | bad => exact h.elim
@[simp] theorem exc_bind {α β : Type} (x : Exn) (g : G) (k : α → G → R β) : (R.exc x g : R α).bind k = .exc x g := rfl
theorem for_res {w : Wk} {t : Tg} {body : Env → G → RS} {n : Nat} (I : Nat → Env → G → Prop) (Rt : D → G → Prop) (X : Exn → G → Prop)
    (step : ∀ i δ g, i < n → I i δ g → ∃ x δ1, w.item n i g = some (some x) ∧ bindT t x δ = some δ1 ∧ Res (body δ1 g) (fun z g' => match z.2 with
      | .nx => I (i + 1) z.1 g'
      | .rt d => Rt d g') X) (stop : ∀ δ g, I n δ g → w.item n n g = some none) :
    ∀ (k i : Nat) (δ : Env) (g : G), i + k = n → I i δ g → Res (forL w n t body k i δ g) (fun z g' => match z.2 with
      | .nx => I n z.1 g'
      | .rt d => Rt d g') X
  | 0, i, δ, g, h, hI => by
    have : i = n := by omega
    subst this
    unfold forL
    rw [stop δ g hI]
    exact hI
  | k + 1, i, δ, g, h, hI => by
    obtain ⟨x, δ1, h0, h1, h2⟩ := step i δ g (by omega) hI
    unfold forL
    rw [h0]
    dsimp only
    rw [h1]
    dsimp only
    rw [Res_bind]
    refine h2.mono (fun z g' hz => ?_) fun _ _ q => q
    obtain ⟨e2, f⟩ := z
    cases f with
    | nx => exact for_res I Rt X step stop k (i + 1) e2 g' (by omega) hz
    | rt d => exact hz
theorem runF_res {c : Cx} {fd : FDef} {args : List D} {g : G} {Q : D → G → Prop} {X : Exn → G → Prop} (hl : args.length = fd.ps.length) (h : Res (exs c fd.body (args.map some ++ List.replicate (fd.N.length - args.length) none) g) (fun z g => match z.2 with
    | .nx => Q .non g
    | .rt d => Q d g) X) : Res (runF c fd args g) Q X := by
  unfold runF
  rw [if_pos hl, Res_bind]
  refine h.mono (fun z g q => ?_) fun _ _ q => q
  obtain ⟨e, f⟩ := z
  cases f <;> exact q
/-! ### instances -/
theorem att_ref {c : Cx} {g : G} {a : Nat} {k f : String} {fs : List (String × D)} {v : D} (h : g[a]? = some (.ins k fs)) (hc : c.P.cls k = true) (hp : c.P.prop k f = false) (hf : c.P.fld k f = true) (hv : lookF f fs = some v) : attr c (.ref a) f g = .ok v g := by
  unfold attr
  dsimp only
  rw [h]
  dsimp only
  rw [hc, hp, hf, hv]
  rfl
theorem fld_ref {P : Pg} {g : G} {a : Nat} {k f : String} {fs : List (String × D)} (h : g[a]? = some (.ins k fs)) (hc : P.cls k = true) (hf : P.fld k f = true) (hl : fs.length < 1000) (v : D) : setFld P (.ref a) f v g = .ok () (g.set a (.ins k (putF f v fs))) := by
  unfold setFld
  dsimp only
  rw [h]
  dsimp only
  rw [if_pos ⟨hl, hc, hf⟩]
theorem kind_ins {P : Pg} {g : G} {a : Nat} {k m : String} {fs : List (String × D)} (h : g[a]? = some (.ins k fs)) (hf : lookF m fs = none) (hc : P.cls k = true) (hp : P.prop k m = false) (hm : (P.fn k m).isSome = true) : kindOf P (.ref a) m g = some (.ins k) := by
  unfold kindOf
  dsimp only
  rw [h]
  dsimp only
  rw [hf, hc, hp, hm]
  rfl
theorem find_first {α : Type} {p : α → Bool} : ∀ {l : List α} {i : Nat} (h : i < l.length), (∀ r, r ∈ l.take i → p r = false) → p l[i] = true → l.find? p = some l[i]
  | [], i, h, _, _ => by simp at h
  | a :: l, 0, h, _, h2 => by
    have h2 : p a = true := h2
    simp [List.find?_cons, h2]
  | a :: l, i + 1, h, h1, h2 => by
    have ha := h1 a (by simp)
    rw [List.find?_cons, ha]
    exact find_first (l := l) (by simpa using h) (fun r hr => h1 r (by simp [hr])) h2
end UkW
end
section
set_option autoImplicit false
namespace Mac
/-! ## Loops, plainly -/
inductive Wo where | num (i : Int) | odd
  deriving DecidableEq, Repr
/-- an object: its worth, its mark -/
abbrev Th := Wo × Int
abbrev Ot := Option Th
inductive Nm where | a | b
  deriving DecidableEq, Repr
inductive Bs where | item | nm (x : Nm)
  deriving DecidableEq, Repr
/-- a value that is no copy -/
inductive Pv where | bs (x : Bs) | none | at (k : Int)
  deriving DecidableEq, Repr
inductive Vl where | pv (v : Pv) | copy (x : Bs)
  deriving DecidableEq, Repr
inductive Wd where | same | alike | in_ | below
  deriving DecidableEq, Repr
structure Ts where
  neg : Bool
  w : Wd
  x : Pv
  y : Pv
  deriving DecidableEq, Repr
mutual
inductive Sm where | brk | set (x : Nm) (v : Vl) | ifs (t : Ts) (y n : Bk)
inductive Bk where | nil | cons (s : Sm) (b : Bk)
end
/-! ### What a loop does -/
structure St where
  a : Ot
  b : Ot
  over : Bool
  low : Int
  deriving DecidableEq, Repr
def St.get (s : St) : Nm → Ot
  | .a => s.a
  | .b => s.b
def St.put (s : St) (x : Nm) (v : Ot) : St := match x with
  | .a => { s with a := v }
  | .b => { s with b := v }
def Bs.val (x : Bs) (s : St) (item : Th) : Ot := match x with
  | .item => some item
  | .nm x => s.get x
def Pv.val (v : Pv) (s : St) (item : Th) : Ot := match v with
  | .bs x => x.val s item
  | .none => Option.none
  | .at k => some (.num k, -1)
def fresh (o : Ot) (s : St) : Ot × St := match o with
  | none => (none, s)
  | some (w, _) => (some (w, s.low - 1), { s with low := s.low - 1 })
def Vl.val (v : Vl) (s : St) (item : Th) : Ot × St := match v with
  | .pv v => (v.val s item, s)
  | .copy x => fresh (x.val s item) s
def like : Ot → Ot → Bool
  | none, none => true
  | some (.num i, _), some (.num j, _) => i == j
  | _, _ => false
def less : Ot → Ot → Bool
  | some (.num i, _), some (.num j, _) => decide (i < j)
  | _, _ => false
def Wd.holds (w : Wd) (x y : Ot) : Bool := match w with
  | .same => decide (x = y)
  | .alike => like x y
  | .in_ => decide (x = y) || like x y
  | .below => less x y
def Ts.holds (t : Ts) (s : St) (item : Th) : Bool := t.neg ^^ t.w.holds (t.x.val s item) (t.y.val s item)
mutual
def Sm.run : Sm → Th → St → St
  | .brk, _, s => { s with over := true }
  | .set x v, i, s => let r := v.val s i; r.2.put x r.1
  | .ifs t y n, i, s => if t.holds s i then y.run i s else n.run i s
def Bk.run : Bk → Th → St → St
  | .nil, _, s => s
  | .cons t b, i, s => if s.over then s else b.run i (t.run i s)
end
theorem Bk.run_over (b : Bk) (i : Th) {s : St} (h : s.over = true) : b.run i s = s := by
  cases b with
  | nil => simp [Bk.run]
  | cons t b => simp [Bk.run, h]
/-- what is told -/
def wordOf : Ot → Option Wo
  | none => none
  | some (w, _) => some w
def told (a b : Ot) : Option Wo × Option Wo × Bool := (wordOf a, wordOf b, decide (a = b))
/-! ### Steps -/
abbrev State := Ot × Ot × Bool
def start : State := (none, none, false)
def leastMark (l : List Ot) : Int := l.foldl (fun m o => match o with
  | some (_, k) => min m k
  | none => m) (-1)
structure Plan where
  blk : Bk
  cop : Bool
  skp : Bool
def Plan.step (p : Plan) (st : State) (item : Th) (others : List Ot) : State :=
  if st.2.2 || (p.skp && item.1 == .odd) then st else
  let s0 : St := ⟨st.1, st.2.1, false, leastMark (st.1 :: st.2.1 :: some item :: others)⟩
  let r := if p.cop then fresh (some item) s0 else (some item, s0)
  let s := p.blk.run (r.1.getD item) r.2
  (s.a, s.b, s.over)
/-! ### Marks renamed -/
structure Bij (ρ : Int → Int → Prop) : Prop where
  inj : ∀ {x x' y y' : Int}, ρ x x' → ρ y y' → (x = y ↔ x' = y')
def TR (ρ : Int → Int → Prop) : Ot → Ot → Prop
  | none, none => True
  | some (w, m), some (w', m') => w = w' ∧ ρ m m'
  | _, _ => False
theorem TR.mono {ρ ρ' : Int → Int → Prop} (h : ∀ x x', ρ x x' → ρ' x x') : ∀ {o o' : Ot}, TR ρ o o' → TR ρ' o o'
  | none, none, _ => trivial
  | some _, some _, q => ⟨q.1, h _ _ q.2⟩
  | none, some _, q => q.elim
  | some _, none, q => q.elim
theorem TR.eq {ρ : Int → Int → Prop} (B : Bij ρ) : ∀ {x x' y y' : Ot}, TR ρ x x' → TR ρ y y' → (x = y ↔ x' = y')
  | none, none, none, none, _, _ => by simp
  | none, none, some _, some _, _, _ => by simp
  | some _, some _, none, none, _, _ => by simp
  | some (w, m), some (w', m'), some (u, k), some (u', k'), h, q => by
    have e := B.inj h.2 q.2
    obtain ⟨rfl, _⟩ := h
    obtain ⟨rfl, _⟩ := q
    simp only [Option.some.injEq, Prod.mk.injEq]
    rw [e]
  | none, some _, _, _, h, _ => h.elim
  | some _, none, _, _, h, _ => h.elim
  | _, _, none, some _, _, q => q.elim
  | _, _, some _, none, _, q => q.elim
theorem TR.word {ρ : Int → Int → Prop} : ∀ {x x' : Ot}, TR ρ x x' → wordOf x = wordOf x'
  | none, none, _ => rfl
  | some (w, m), some (w', m'), h => by simp [wordOf, h.1]
  | none, some _, h => h.elim
  | some _, none, h => h.elim
theorem TR.told {ρ : Int → Int → Prop} (B : Bij ρ) {x x' y y' : Ot} (h : TR ρ x x') (q : TR ρ y y') : told x y = told x' y' := by
  unfold Mac.told
  rw [h.word, q.word]
  congr 2
  exact decide_eq_decide.mpr (h.eq B q)
theorem TR.like {ρ : Int → Int → Prop} : ∀ {x x' y y' : Ot}, TR ρ x x' → TR ρ y y' → like x y = like x' y'
  | none, none, none, none, _, _ => rfl
  | none, none, some _, some _, _, _ => rfl
  | some (w, _), some (w', _), none, none, h, _ => by
    obtain ⟨rfl, _⟩ := h
    cases w <;> rfl
  | some (w, m), some (w', m'), some (u, k), some (u', k'), h, q => by
    obtain ⟨rfl, _⟩ := h
    obtain ⟨rfl, _⟩ := q
    cases w <;> cases u <;> rfl
  | none, some _, _, _, h, _ => h.elim
  | some _, none, _, _, h, _ => h.elim
  | _, _, none, some _, _, q => q.elim
  | _, _, some _, none, _, q => q.elim
theorem TR.less {ρ : Int → Int → Prop} : ∀ {x x' y y' : Ot}, TR ρ x x' → TR ρ y y' → less x y = less x' y'
  | none, none, none, none, _, _ => rfl
  | none, none, some _, some _, _, _ => rfl
  | some (w, _), some (w', _), none, none, h, _ => by
    obtain ⟨rfl, _⟩ := h
    cases w <;> rfl
  | some (w, m), some (w', m'), some (u, k), some (u', k'), h, q => by
    obtain ⟨rfl, _⟩ := h
    obtain ⟨rfl, _⟩ := q
    cases w <;> cases u <;> rfl
  | none, some _, _, _, h, _ => h.elim
  | some _, none, _, _, h, _ => h.elim
  | _, _, none, some _, _, q => q.elim
  | _, _, some _, none, _, q => q.elim
/-- two states that differ by names of marks alone -/
structure SR (ρ : Int → Int → Prop) (s s' : St) : Prop where
  bij : Bij ρ
  at_ : ρ (-1) (-1)
  low : ∀ {x x' : Int}, ρ x x' → s.low ≤ x ∧ s'.low ≤ x'
  a : TR ρ s.a s'.a
  b : TR ρ s.b s'.b
  over : s.over = s'.over
section
variable {ρ : Int → Int → Prop} {s s' : St} {i i' : Th}
theorem SR.get (h : SR ρ s s') (x : Nm) : TR ρ (s.get x) (s'.get x) := by
  cases x
  · exact h.a
  · exact h.b
theorem SR.bs (h : SR ρ s s') (hi : TR ρ (some i) (some i')) (x : Bs) : TR ρ (x.val s i) (x.val s' i') := by
  cases x with
  | item => exact hi
  | nm x => exact h.get x
theorem SR.pv (h : SR ρ s s') (hi : TR ρ (some i) (some i')) (x : Pv) : TR ρ (x.val s i) (x.val s' i') := by
  cases x with
  | bs x => exact h.bs hi x
  | none => trivial
  | «at» k => exact ⟨rfl, h.at_⟩
theorem SR.holds (h : SR ρ s s') (hi : TR ρ (some i) (some i')) (t : Ts) : t.holds s i = t.holds s' i' := by
  have h1 := h.pv hi t.x
  have h2 := h.pv hi t.y
  have e : decide (t.x.val s i = t.y.val s i) = decide (t.x.val s' i' = t.y.val s' i') := decide_eq_decide.mpr (h1.eq h.bij h2)
  unfold Ts.holds
  congr 1
  cases t.w with
  | same => exact e
  | alike => exact h1.like h2
  | below => exact h1.less h2
  | in_ => simp only [Wd.holds]; rw [e, h1.like h2]
theorem SR.put (h : SR ρ s s') (x : Nm) {v v' : Ot} (q : TR ρ v v') : SR ρ (s.put x v) (s'.put x v') := by
  cases x
  · exact ⟨h.bij, h.at_, h.low, q, h.b, h.over⟩
  · exact ⟨h.bij, h.at_, h.low, h.a, q, h.over⟩
/-- ρ with one pair more -/
def more (ρ : Int → Int → Prop) (l l' : Int) : Int → Int → Prop := fun x x' => ρ x x' ∨ (x = l ∧ x' = l')
/-- ρ' has all of ρ, and pairs of marks below l, l' -/
def Grow (ρ ρ' : Int → Int → Prop) (l l' : Int) : Prop := (∀ x x', ρ x x' → ρ' x x') ∧ ∀ x x', ρ' x x' → ρ x x' ∨ (x < l ∧ x' < l')
theorem Grow.refl (ρ : Int → Int → Prop) (l l' : Int) : Grow ρ ρ l l' := ⟨fun _ _ h => h, fun _ _ h => .inl h⟩
theorem Grow.trans {ρ₁ ρ₂ ρ₃ : Int → Int → Prop} {l l' k k' : Int} (a : Grow ρ₁ ρ₂ l l') (b : Grow ρ₂ ρ₃ k k') (h : k ≤ l) (h' : k' ≤ l') : Grow ρ₁ ρ₃ l l' :=
  ⟨fun x x' q => b.1 _ _ (a.1 _ _ q), fun x x' q => by
    rcases b.2 _ _ q with q | ⟨q, q'⟩
    · exact a.2 _ _ q
    · exact .inr ⟨by omega, by omega⟩⟩
theorem SR.fresh (h : SR ρ s s') {o o' : Ot} (q : TR ρ o o') : ∃ ρ', Grow ρ ρ' s.low s'.low ∧ SR ρ' (fresh o s).2 (fresh o' s').2 ∧ TR ρ' (fresh o s).1 (fresh o' s').1 ∧ (Mac.fresh o s).2.low ≤ s.low ∧ (Mac.fresh o' s').2.low ≤ s'.low := by
  match o, o', q with
  | none, none, _ => exact ⟨ρ, .refl _ _ _, h, trivial, Int.le_refl _, Int.le_refl _⟩
  | some (w, m), some (w', m'), q =>
    obtain ⟨rfl, _⟩ := q
    have mono : ∀ x x', ρ x x' → more ρ (s.low - 1) (s'.low - 1) x x' := fun _ _ h => .inl h
    refine ⟨more ρ (s.low - 1) (s'.low - 1), ⟨mono, fun x x' q => ?_⟩, ⟨⟨?_⟩, .inl h.at_, ?_, h.a.mono mono, h.b.mono mono, h.over⟩, ⟨rfl, .inr ⟨rfl, rfl⟩⟩, ?_, ?_⟩
    · rcases q with q | ⟨rfl, rfl⟩
      · exact .inl q
      · exact .inr ⟨by omega, by omega⟩
    · intro x x' y y' hx hy
      rcases hx with hx | ⟨rfl, rfl⟩ <;> rcases hy with hy | ⟨rfl, rfl⟩
      · exact h.bij.inj hx hy
      · have := h.low hx
        omega
      · have := h.low hy
        omega
      · simp
    · intro x x' q
      show s.low - 1 ≤ x ∧ s'.low - 1 ≤ x'
      rcases q with q | ⟨rfl, rfl⟩
      · have := h.low q
        omega
      · omega
    · show s.low - 1 ≤ s.low
      omega
    · show s'.low - 1 ≤ s'.low
      omega
theorem SR.vl (h : SR ρ s s') (hi : TR ρ (some i) (some i')) (v : Vl) : ∃ ρ', Grow ρ ρ' s.low s'.low ∧ SR ρ' (v.val s i).2 (v.val s' i').2 ∧ TR ρ' (v.val s i).1 (v.val s' i').1 ∧ (v.val s i).2.low ≤ s.low ∧ (v.val s' i').2.low ≤ s'.low := by
  cases v with
  | pv v => exact ⟨ρ, .refl _ _ _, h, h.pv hi v, Int.le_refl _, Int.le_refl _⟩
  | copy x => exact h.fresh (h.bs hi x)
theorem put_low (s : St) (x : Nm) (v : Ot) : (s.put x v).low = s.low := by cases x <;> rfl
end
mutual
theorem Sm.ren {i i' : Th} : ∀ (t : Sm) {ρ : Int → Int → Prop} {s s' : St}, SR ρ s s' → TR ρ (some i) (some i') → ∃ ρ', Grow ρ ρ' s.low s'.low ∧ SR ρ' (t.run i s) (t.run i' s') ∧ (t.run i s).low ≤ s.low ∧ (t.run i' s').low ≤ s'.low
  | .brk, ρ, s, s', h, hi => ⟨ρ, .refl _ _ _, ⟨h.bij, h.at_, h.low, h.a, h.b, rfl⟩, Int.le_refl _, Int.le_refl _⟩
  | .set x v, ρ, s, s', h, hi => by
    obtain ⟨ρ', h1, h2, h3, h4, h5⟩ := h.vl hi v
    refine ⟨ρ', h1, ?_, ?_, ?_⟩
    · show SR ρ' ((v.val s i).2.put x (v.val s i).1) ((v.val s' i').2.put x (v.val s' i').1)
      exact h2.put x h3
    · show ((v.val s i).2.put x _).low ≤ _
      rw [put_low]; exact h4
    · show ((v.val s' i').2.put x _).low ≤ _
      rw [put_low]; exact h5
  | .ifs t y n, ρ, s, s', h, hi => by
    have e := h.holds hi t
    cases ht : t.holds s i with
    | true =>
      have ht' : t.holds s' i' = true := e ▸ ht
      have e1 : (Sm.ifs t y n).run i s = y.run i s := by simp [Sm.run, ht]
      have e2 : (Sm.ifs t y n).run i' s' = y.run i' s' := by simp [Sm.run, ht']
      rw [e1, e2]
      exact Bk.ren y h hi
    | false =>
      have ht' : t.holds s' i' = false := e ▸ ht
      have e1 : (Sm.ifs t y n).run i s = n.run i s := by simp [Sm.run, ht]
      have e2 : (Sm.ifs t y n).run i' s' = n.run i' s' := by simp [Sm.run, ht']
      rw [e1, e2]
      exact Bk.ren n h hi
theorem Bk.ren {i i' : Th} : ∀ (b : Bk) {ρ : Int → Int → Prop} {s s' : St}, SR ρ s s' → TR ρ (some i) (some i') → ∃ ρ', Grow ρ ρ' s.low s'.low ∧ SR ρ' (b.run i s) (b.run i' s') ∧ (b.run i s).low ≤ s.low ∧ (b.run i' s').low ≤ s'.low
  | .nil, ρ, s, s', h, hi => by
    rw [Bk.run, Bk.run]
    exact ⟨ρ, .refl _ _ _, h, Int.le_refl _, Int.le_refl _⟩
  | .cons t b, ρ, s, s', h, hi => by
    cases ho : s.over with
    | true =>
      have ho' : s'.over = true := h.over ▸ ho
      rw [Bk.run_over _ _ ho, Bk.run_over _ _ ho']
      exact ⟨ρ, .refl _ _ _, h, Int.le_refl _, Int.le_refl _⟩
    | false =>
      have ho' : s'.over = false := h.over ▸ ho
      obtain ⟨ρ1, g1, h1, l1, l1'⟩ := Sm.ren t h hi
      obtain ⟨ρ2, g2, h2, l2, l2'⟩ := Bk.ren b h1 (hi.mono g1.1)
      have e1 : (Bk.cons t b).run i s = b.run i (t.run i s) := by simp [Bk.run, ho]
      have e2 : (Bk.cons t b).run i' s' = b.run i' (t.run i' s') := by simp [Bk.run, ho']
      rw [e1, e2]
      exact ⟨ρ2, g1.trans g2 l1 l1', h2, Int.le_trans l2 l1, Int.le_trans l2' l1'⟩
end
end Mac
end
section
set_option Elab.async false
set_option linter.all false
set_option maxRecDepth 100000
set_option autoImplicit false
set_option maxHeartbeats 0
namespace Uk
def d_is_integer : FDef := ⟨["value"], ["value"],
 (.c (.ret (.and_ (.isi (.loc 0) "int") (.not_ (.isi (.loc 0) "bool"))))
 .n)⟩
def d_is_worth : FDef := ⟨["value"], ["value"],
 (.c (.ife (.isi (.loc 0) "str") (.c (.ret (.cmp .eq (.loc 0) (.glo "ODD")))
 .n) .n)
 (.c (.ret (.and_ (.call "is_integer" (.c (.loc 0) .n)) (.chn (.cst (.int 0)) .le (.loc 0) .le (.glo "MOST_WORTH"))))
 .n))⟩
def d_is_item : FDef := ⟨["value"], ["value"],
 (.c (.ife (.or_ (.not_ (.isi (.loc 0) "tuple")) (.or_ (.cmp .ne (.bi .len (.c (.loc 0) .n)) (.cst (.int 2))) (.not_ (.call "is_worth" (.c (.ix (.loc 0) (.cst (.int 0))) .n))))) (.c (.ret (.cst (.bl false)))
 .n) .n)
 (.c (.ret (.and_ (.call "is_integer" (.c (.ix (.loc 0) (.cst (.int 1))) .n)) (.cmp .ge (.ix (.loc 0) (.cst (.int 1))) (.cst (.int 0)))))
 .n))⟩
def d_need_items : FDef := ⟨["items"], ["items", "index", "item"],
 (.c (.ife (.not_ (.isi (.loc 0) "tuple")) (.c (.rai "InvalidItems" (.c (.neg (.cst (.int 1))) .n))
 .n) .n)
 (.c (.for_ (.many [1, 2]) (.enum (.loc 0)) (.c (.ife (.not_ (.call "is_item" (.c (.loc 2) .n))) (.c (.rai "InvalidItems" (.c (.loc 1) .n))
 .n) .n)
 .n))
 .n))⟩
def d_are_same : FDef := ⟨["one", "other"], ["one", "other"],
 (.c (.ret (.cmp .eq (.loc 0) (.loc 1)))
 .n)⟩
def d_are_like : FDef := ⟨["one", "other"], ["one", "other"],
 (.c (.ife (.or_ (.cmp .isn (.loc 0) (.cst .non)) (.cmp .isn (.loc 1) (.cst .non))) (.c (.ret (.and_ (.cmp .isn (.loc 0) (.cst .non)) (.cmp .isn (.loc 1) (.cst .non))))
 .n) .n)
 (.c (.ret (.and_ (.cmp .ne (.ix (.loc 0) (.cst (.int 0))) (.glo "ODD")) (.cmp .eq (.ix (.loc 0) (.cst (.int 0))) (.ix (.loc 1) (.cst (.int 0))))))
 .n))⟩
def d_is_less : FDef := ⟨["one", "other"], ["one", "other"],
 (.c (.ife (.or_ (.cmp .isn (.loc 0) (.cst .non)) (.or_ (.cmp .isn (.loc 1) (.cst .non)) (.cmp .in_ (.glo "ODD") (.tup (.c (.ix (.loc 0) (.cst (.int 0))) (.c (.ix (.loc 1) (.cst (.int 0))) .n)))))) (.c (.ret (.cst (.bl false)))
 .n) .n)
 (.c (.ret (.cmp .lt (.ix (.loc 0) (.cst (.int 0))) (.ix (.loc 1) (.cst (.int 0)))))
 .n))⟩
def d_told_of : FDef := ⟨["one", "other"], ["one", "other", "held", "words"],
 (.c (.asg 3 (.comp [2] (.ite (.cmp .isn (.loc 2) (.cst .non)) (.cst (.str "none")) (.ix (.loc 2) (.cst (.int 0)))) (.one 2) (.seq (.tup (.c (.loc 0) (.c (.loc 1) .n)))) (.cst (.bl true))))
 (.c (.ret (.tup (.c (.ix (.loc 3) (.cst (.int 0))) (.c (.ix (.loc 3) (.cst (.int 1))) (.c (.call "are_same" (.c (.loc 0) (.c (.loc 1) .n))) .n)))))
 .n))⟩
def d_PlanU_initU : FDef := ⟨["self", "block", "copies", "skips"], ["self", "block", "copies", "skips"],
 (.c (.fld (.loc 0) "block_told" (.loc 1))
 (.c (.fld (.loc 0) "is_copying" (.loc 2))
 (.c (.fld (.loc 0) "is_skipping" (.loc 3))
 .n)))⟩
def d_HandsU_initU : FDef := ⟨["self", "one", "other", "is_over"], ["self", "one", "other", "is_over"],
 (.c (.fld (.loc 0) "held" (.dsp false (.c (.cst (.str "a")) (.loc 1) (.c (.cst (.str "b")) (.loc 2) .n))))
 (.c (.fld (.loc 0) "is_done" (.loc 3))
 (.c (.fld (.loc 0) "lowest" (.glo "WRITTEN"))
 .n)))⟩
def d_Hands_fresh : FDef := ⟨["self", "thing"], ["self", "thing"],
 (.c (.ife (.cmp .isn (.loc 1) (.cst .non)) (.c (.ret (.cst .non))
 .n) .n)
 (.c (.fld (.loc 0) "lowest" (.bin .sub (.att (.loc 0) "lowest") (.cst (.int 1))))
 (.c (.ret (.tup (.c (.ix (.loc 1) (.cst (.int 0))) (.c (.att (.loc 0) "lowest") .n))))
 .n)))⟩
def d_Hands_value : FDef := ⟨["self", "part", "item"], ["self", "part", "item", "word"],
 (.c (.asg 3 (.ix (.loc 1) (.cst (.int 0))))
 (.c (.ife (.cmp .eq (.loc 3) (.cst (.str "item"))) (.c (.ret (.loc 2))
 .n) .n)
 (.c (.ife (.cmp .eq (.loc 3) (.cst (.str "none"))) (.c (.ret (.cst .non))
 .n) .n)
 (.c (.ife (.cmp .eq (.loc 3) (.cst (.str "at"))) (.c (.ret (.tup (.c (.ix (.loc 1) (.cst (.int 1))) (.c (.glo "WRITTEN") .n))))
 .n) .n)
 (.c (.ife (.cmp .eq (.loc 3) (.cst (.str "copy"))) (.c (.ret (.met (.loc 0) "fresh" (.c (.met (.loc 0) "value" (.c (.ix (.loc 1) (.cst (.int 1))) (.c (.loc 2) .n))) .n)))
 .n) .n)
 (.c (.ret (.ix (.att (.loc 0) "held") (.loc 3)))
 .n))))))⟩
def d_Hands_holds : FDef := ⟨["self", "test", "item"], ["self", "test", "item", "word", "one", "other"],
 (.c (.asg 3 (.ix (.loc 1) (.cst (.int 0))))
 (.c (.ife (.cmp .eq (.loc 3) (.cst (.str "not"))) (.c (.ret (.not_ (.met (.loc 0) "holds" (.c (.ix (.loc 1) (.cst (.int 1))) (.c (.loc 2) .n)))))
 .n) .n)
 (.c (.par 4 5 (.met (.loc 0) "value" (.c (.ix (.loc 1) (.cst (.int 1))) (.c (.loc 2) .n))) (.met (.loc 0) "value" (.c (.ix (.loc 1) (.cst (.int 2))) (.c (.loc 2) .n))))
 (.c (.ife (.cmp .eq (.loc 3) (.cst (.str "same"))) (.c (.ret (.call "are_same" (.c (.loc 4) (.c (.loc 5) .n))))
 .n) .n)
 (.c (.ife (.cmp .eq (.loc 3) (.cst (.str "like"))) (.c (.ret (.call "are_like" (.c (.loc 4) (.c (.loc 5) .n))))
 .n) .n)
 (.c (.ife (.cmp .eq (.loc 3) (.cst (.str "less"))) (.c (.ret (.call "is_less" (.c (.loc 4) (.c (.loc 5) .n))))
 .n) .n)
 (.c (.ret (.or_ (.call "are_same" (.c (.loc 4) (.c (.loc 5) .n))) (.call "are_like" (.c (.loc 4) (.c (.loc 5) .n)))))
 .n)))))))⟩
def d_Hands_execute : FDef := ⟨["self", "block", "item"], ["self", "block", "item", "statement"],
 (.c (.for_ (.one 3) (.seq (.loc 1)) (.c (.ife (.not_ (.att (.loc 0) "is_done")) (.c (.ife (.cmp .eq (.ix (.loc 3) (.cst (.int 0))) (.cst (.str "break"))) (.c (.fld (.loc 0) "is_done" (.cst (.bl true)))
 .n) (.c (.ife (.cmp .eq (.ix (.loc 3) (.cst (.int 0))) (.cst (.str "set"))) (.c (.sub (.att (.loc 0) "held") (.ix (.loc 3) (.cst (.int 1))) (.met (.loc 0) "value" (.c (.ix (.loc 3) (.cst (.int 2))) (.c (.loc 2) .n))))
 .n) (.c (.ex (.met (.loc 0) "execute" (.c (.ite (.met (.loc 0) "holds" (.c (.ix (.loc 3) (.cst (.int 1))) (.c (.loc 2) .n))) (.ix (.loc 3) (.cst (.int 2))) (.ix (.loc 3) (.cst (.int 3)))) (.c (.loc 2) .n))))
 .n))
 .n))
 .n) .n)
 .n))
 .n)⟩
def d_least_mark : FDef := ⟨["things"], ["things", "thing"],
 (.c (.ret (.bi .min (.c (.bin .add (.lst (.c (.glo "WRITTEN") .n)) (.comp [1] (.ix (.loc 1) (.cst (.int 1))) (.one 1) (.seq (.loc 0)) (.cmp .notn (.loc 1) (.cst .non)))) .n)))
 .n)⟩
def d_step : FDef := ⟨["plan", "state", "item", "others"], ["plan", "state", "item", "others", "one", "other", "is_over", "hands"],
 (.c (.unp [4, 5, 6] (.loc 1))
 (.c (.ife (.or_ (.loc 6) (.and_ (.att (.loc 0) "is_skipping") (.cmp .eq (.ix (.loc 2) (.cst (.int 0))) (.glo "ODD")))) (.c (.ret (.loc 1))
 .n) .n)
 (.c (.asg 7 (.mk "Hands" (.c (.loc 4) (.c (.loc 5) (.c (.cst (.bl false)) .n)))))
 (.c (.fld (.loc 7) "lowest" (.call "least_mark" (.c (.bin .add (.lst (.c (.loc 4) (.c (.loc 5) (.c (.loc 2) .n)))) (.bi .list (.c (.loc 3) .n))) .n)))
 (.c (.ex (.met (.loc 7) "execute" (.c (.att (.loc 0) "block_told") (.c (.ite (.att (.loc 0) "is_copying") (.met (.loc 7) "fresh" (.c (.loc 2) .n)) (.loc 2)) .n))))
 (.c (.ret (.tup (.c (.ix (.att (.loc 7) "held") (.cst (.str "a"))) (.c (.ix (.att (.loc 7) "held") (.cst (.str "b"))) (.c (.att (.loc 7) "is_done") .n)))))
 .n))))))⟩
def d_run : FDef := ⟨["loop", "items"], ["loop", "items", "plan", "state", "item"],
 (.c (.ex (.call "need_items" (.c (.loc 1) .n)))
 (.c (.asg 2 (.met (.loc 0) "plan" .n))
 (.c (.asg 3 (.glo "START"))
 (.c (.for_ (.one 4) (.seq (.loc 1)) (.c (.asg 3 (.call "step" (.c (.loc 2) (.c (.loc 3) (.c (.loc 4) (.c (.lst .n) .n))))))
 .n))
 (.c (.ret (.call "told_of" (.c (.ix (.loc 3) (.cst (.int 0))) (.c (.ix (.loc 3) (.cst (.int 1))) .n))))
 .n)))))⟩
def d_RunnerU_initU : FDef := ⟨["self", "loop"], ["self", "loop"],
 (.c (.fld (.loc 0) "own_plan" (.met (.loc 1) "plan" .n))
 (.c (.fld (.loc 0) "states" (.lst (.c (.glo "START") .n)))
 (.c (.fld (.loc 0) "taken_items" (.lst .n))
 .n)))⟩
def d_Runner_told : FDef := ⟨["self"], ["self"],
 (.c (.ret (.call "told_of" (.c (.ix (.ix (.att (.loc 0) "states") (.neg (.cst (.int 1)))) (.cst (.int 0))) (.c (.ix (.ix (.att (.loc 0) "states") (.neg (.cst (.int 1)))) (.cst (.int 1))) .n))))
 .n)⟩
def d_Runner_taken : FDef := ⟨["self"], ["self"],
 (.c (.ret (.bi .tuple (.c (.att (.loc 0) "taken_items") .n)))
 .n)⟩
def d_Runner_is_over : FDef := ⟨["self"], ["self"],
 (.c (.ret (.ix (.ix (.att (.loc 0) "states") (.neg (.cst (.int 1)))) (.cst (.int 2))))
 .n)⟩
def d_Runner_take : FDef := ⟨["self", "item"], ["self", "item"],
 (.c (.ife (.not_ (.call "is_item" (.c (.loc 1) .n))) (.c (.rai "InvalidItems" (.c (.cst (.int 0)) .n))
 .n) .n)
 (.c (.ex (.met (.att (.loc 0) "states") "append" (.c (.call "step" (.c (.att (.loc 0) "own_plan") (.c (.ix (.att (.loc 0) "states") (.neg (.cst (.int 1)))) (.c (.loc 1) (.c (.lst .n) .n))))) .n)))
 (.c (.ex (.met (.att (.loc 0) "taken_items") "append" (.c (.loc 1) .n)))
 (.c (.ret (.call "told_of" (.c (.ix (.ix (.att (.loc 0) "states") (.neg (.cst (.int 1)))) (.cst (.int 0))) (.c (.ix (.ix (.att (.loc 0) "states") (.neg (.cst (.int 1)))) (.cst (.int 1))) .n))))
 .n))))⟩
def d_Runner_undo : FDef := ⟨["self"], ["self"],
 (.c (.ife (.cmp .eq (.bi .len (.c (.att (.loc 0) "taken_items") .n)) (.cst (.int 0))) (.c (.ret (.cst (.bl false)))
 .n) .n)
 (.c (.ex (.met (.att (.loc 0) "states") "pop" .n))
 (.c (.ex (.met (.att (.loc 0) "taken_items") "pop" .n))
 (.c (.ret (.cst (.bl true)))
 .n))))⟩
def d_RunnerU_lenU : FDef := ⟨["self"], ["self"],
 (.c (.ret (.bi .len (.c (.att (.loc 0) "taken_items") .n)))
 .n)⟩
def d_blocks_of : FDef := ⟨["statement"], ["statement"],
 (.c (.ret (.ite (.cmp .eq (.ix (.loc 0) (.cst (.int 0))) (.cst (.str "if"))) (.lst (.c (.ix (.loc 0) (.cst (.int 2))) (.c (.ix (.loc 0) (.cst (.int 3))) .n))) (.lst .n)))
 .n)⟩
def d_walked : FDef := ⟨["block", "head"], ["block", "head", "found", "index", "statement", "path", "number", "inner"],
 (.c (.asg 2 (.lst .n))
 (.c (.for_ (.many [3, 4]) (.enum (.loc 0)) (.c (.asg 5 (.bin .add (.loc 1) (.tup (.c (.loc 3) .n))))
 (.c (.ex (.met (.loc 2) "append" (.c (.tup (.c (.loc 5) (.c (.loc 4) .n))) .n)))
 (.c (.for_ (.many [6, 7]) (.enum (.call "blocks_of" (.c (.loc 4) .n))) (.c (.ex (.met (.loc 2) "extend" (.c (.call "walked" (.c (.loc 7) (.c (.bin .add (.loc 5) (.tup (.c (.loc 6) .n))) .n))) .n)))
 .n))
 .n))))
 (.c (.ret (.loc 2))
 .n)))⟩
def d_numbers_in : FDef := ⟨["part"], ["part", "found", "inner"],
 (.c (.ife (.cmp .eq (.ix (.loc 0) (.cst (.int 0))) (.cst (.str "at"))) (.c (.ret (.lst (.c (.ix (.loc 0) (.cst (.int 1))) .n)))
 .n) .n)
 (.c (.asg 1 (.lst .n))
 (.c (.for_ (.one 2) (.seq (.cut (.loc 0) (.cst (.int 1)) (.cst .non))) (.c (.ex (.met (.loc 1) "extend" (.c (.call "numbers_in" (.c (.loc 2) .n)) .n)))
 .n))
 (.c (.ret (.loc 1))
 .n))))⟩
def d_is_sound : FDef := ⟨["path", "statement"], ["path", "statement", "numbers", "number"],
 (.c (.ife (.cmp .gt (.bin .fdiv (.bi .len (.c (.loc 0) .n)) (.cst (.int 2))) (.glo "DEEPEST")) (.c (.ret (.cst (.bl false)))
 .n) .n)
 (.c (.ife (.cmp .eq (.ix (.loc 1) (.cst (.int 0))) (.cst (.str "break"))) (.c (.ret (.cst (.bl true)))
 .n) .n)
 (.c (.asg 2 (.call "numbers_in" (.c (.ite (.cmp .eq (.ix (.loc 1) (.cst (.int 0))) (.cst (.str "set"))) (.ix (.loc 1) (.cst (.int 2))) (.ix (.loc 1) (.cst (.int 1)))) .n)))
 (.c (.ret (.bi .all (.c (.comp [3] (.and_ (.call "is_integer" (.c (.loc 3) .n)) (.chn (.cst (.int 0)) .le (.loc 3) .le (.glo "MOST_WORTH"))) (.one 3) (.seq (.loc 2)) (.cst (.bl true))) .n)))
 .n))))⟩
def d_LoopU_initU : FDef := ⟨["self", "block"], ["self", "block", "path", "statement"],
 (.c (.fld (.loc 0) "own_block" (.loc 1))
 (.c (.fld (.loc 0) "rows" (.call "walked" (.c (.loc 1) (.c (.tup .n) .n))))
 (.c (.ife (.cmp .gt (.bi .len (.c (.att (.loc 0) "rows") .n)) (.glo "MOST_STATEMENTS")) (.c (.rai "InvalidLoop" (.c (.tup .n) .n))
 .n) .n)
 (.c (.for_ (.many [2, 3]) (.seq (.att (.loc 0) "rows")) (.c (.ife (.not_ (.call "is_sound" (.c (.loc 2) (.c (.loc 3) .n)))) (.c (.rai "InvalidLoop" (.c (.loc 2) .n))
 .n) .n)
 .n))
 .n))))⟩
def d_Loop_block : FDef := ⟨["self"], ["self"],
 (.c (.ret (.att (.loc 0) "own_block"))
 .n)⟩
def d_Loop_statement : FDef := ⟨["self", "path"], ["self", "path", "one", "statement", "index"],
 (.c (.for_ (.many [2, 3]) (.seq (.att (.loc 0) "rows")) (.c (.ife (.and_ (.cmp .eq (.loc 2) (.loc 1)) (.bi .all (.c (.comp [4] (.call "is_integer" (.c (.loc 4) .n)) (.one 4) (.seq (.loc 1)) (.cst (.bl true))) .n))) (.c (.ret (.loc 3))
 .n) .n)
 .n))
 (.c (.rai "UnknownPath" (.c (.loc 1) .n))
 .n))⟩
def d_Loop_base : FDef := ⟨["self"], ["self"],
 (.c (.ret (.loc 0))
 .n)⟩
def d_Loop_plan : FDef := ⟨["self"], ["self"],
 (.c (.ret (.mk "Plan" (.c (.att (.loc 0) "own_block") (.c (.cst (.bl false)) (.c (.cst (.bl false)) .n)))))
 .n)⟩
def d_LoopU_lenU : FDef := ⟨["self"], ["self"],
 (.c (.ret (.bi .len (.c (.att (.loc 0) "rows") .n)))
 .n)⟩
def d_LoopU_eqU : FDef := ⟨["self", "other"], ["self", "other"],
 (.c (.ret (.and_ (.isi (.loc 1) "Loop") (.cmp .eq (.att (.loc 0) "own_block") (.att (.loc 1) "own_block"))))
 .n)⟩
def d__law_random : FDef := ⟨["_law_script", "_law_salt"], ["_law_script", "_law_salt", "_law_seed", "_law_cell"],
 (.c (.asg 2 (.loc 1))
 (.c (.for_ (.one 3) (.seq (.loc 0)) (.c (.asg 2 (.bin .mod (.bi .int (.c (.bin .add (.bin .mul (.loc 2) (.cst (.int 31))) (.bi .abs (.c (.loc 3) .n))) .n)) (.cst (.int 2147483647))))
 .n))
 (.c (.ret (.bin .add (.lst (.c (.loc 2) (.c (.cst (.int 0)) .n))) (.comp [3] (.loc 3) (.one 3) (.seq (.loc 0)) (.cmp .ge (.loc 3) (.bin .pow (.cst (.int 10)) (.cst (.int 18)))))))
 .n)))⟩
def d__law_below : FDef := ⟨["_law_d", "_law_size"], ["_law_d", "_law_size", "_law_result"],
 (.c (.ife (.and_ (.cmp .eq (.ix (.loc 0) (.cst (.int 1))) (.cst (.int 0))) (.cmp .gt (.bi .len (.c (.loc 0) .n)) (.cst (.int 2)))) (.c (.sub (.loc 0) (.cst (.int 1)) (.met (.loc 0) "pop" (.c (.cst (.int 2)) .n)))
 .n) .n)
 (.c (.ife (.cmp .gt (.ix (.loc 0) (.cst (.int 1))) (.cst (.int 0))) (.c (.asg 2 (.bin .mod (.bi .int (.c (.ix (.loc 0) (.cst (.int 1))) .n)) (.loc 1)))
 (.c (.sub (.loc 0) (.cst (.int 1)) (.bin .fdiv (.ix (.loc 0) (.cst (.int 1))) (.loc 1)))
 (.c (.ret (.loc 2))
 .n))) .n)
 (.c (.sub (.loc 0) (.cst (.int 0)) (.bin .mod (.bi .int (.c (.bin .add (.bin .mul (.ix (.loc 0) (.cst (.int 0))) (.cst (.int 48271))) (.cst (.int 11))) .n)) (.cst (.int 2147483647))))
 (.c (.ret (.bin .mod (.bi .int (.c (.bin .fdiv (.ix (.loc 0) (.cst (.int 0))) (.cst (.int 64))) .n)) (.loc 1)))
 .n))))⟩
def d__law_pick : FDef := ⟨["_law_d", "_law_items"], ["_law_d", "_law_items"],
 (.c (.ret (.ix (.loc 1) (.call "_law_below" (.c (.loc 0) (.c (.bi .len (.c (.loc 1) .n)) .n)))))
 .n)⟩
def d__law_equal : FDef := ⟨["_law_actual", "_law_expected"], ["_law_actual", "_law_expected", "_law_key", "_law_k"],
 (.c (.ife (.cmp .isn (.loc 1) (.cst .non)) (.c (.ret (.cmp .isn (.loc 0) (.cst .non)))
 .n) .n)
 (.c (.ife (.isi (.loc 1) "bool") (.c (.ret (.and_ (.isi (.loc 0) "bool") (.cmp .eq (.loc 0) (.loc 1))))
 .n) .n)
 (.c (.ife (.isi (.loc 1) "int") (.c (.ret (.and_ (.isi (.loc 0) "int") (.and_ (.not_ (.isi (.loc 0) "bool")) (.cmp .eq (.loc 0) (.loc 1)))))
 .n) .n)
 (.c (.ife (.isi (.loc 1) "str") (.c (.ret (.and_ (.isi (.loc 0) "str") (.cmp .eq (.loc 0) (.loc 1))))
 .n) .n)
 (.c (.ife (.isi (.loc 1) "dict") (.c (.ife (.or_ (.not_ (.isi (.loc 0) "dict")) (.cmp .ne (.bi .list (.c (.loc 0) .n)) (.nope))) (.c (.ret (.cst (.bl false)))
 .n) .n)
 (.c (.ret (.bi .all (.c (.comp [2] (.call "_law_equal" (.c (.ix (.loc 0) (.loc 2)) (.c (.ix (.loc 1) (.loc 2)) .n))) (.one 2) (.seq (.bi .list (.c (.loc 0) .n))) (.cst (.bl true))) .n)))
 .n)) .n)
 (.c (.ife (.cmp .ne (.isi (.loc 1) "tuple") (.isi (.loc 0) "tuple")) (.c (.ret (.cst (.bl false)))
 .n) .n)
 (.c (.ife (.cmp .ne (.isi (.loc 1) "list") (.isi (.loc 0) "list")) (.c (.ret (.cst (.bl false)))
 .n) .n)
 (.c (.ife (.cmp .ne (.bi .len (.c (.loc 0) .n)) (.bi .len (.c (.loc 1) .n))) (.c (.ret (.cst (.bl false)))
 .n) .n)
 (.c (.ret (.bi .all (.c (.comp [3] (.call "_law_equal" (.c (.ix (.loc 0) (.loc 3)) (.c (.ix (.loc 1) (.loc 3)) .n))) (.one 3) (.r1 (.bi .len (.c (.loc 1) .n))) (.cst (.bl true))) .n)))
 .n)))))))))⟩
def d__law_val : FDef := ⟨["_law_d"], ["_law_d", "_law_chances"],
 (.c (.asg 1 (.lst (.c (.tup (.c (.cst (.str "item")) .n)) (.c (.tup (.c (.cst (.str "item")) .n)) (.c (.tup (.c (.cst (.str "a")) .n)) (.c (.tup (.c (.cst (.str "a")) .n)) (.c (.tup (.c (.cst (.str "b")) .n)) (.c (.tup (.c (.cst (.str "none")) .n)) (.c (.tup (.c (.cst (.str "at")) (.c (.cst (.int 1)) .n))) .n)))))))))
 (.c (.ret (.call "_law_pick" (.c (.loc 0) (.c (.bin .add (.loc 1) (.lst (.c (.tup (.c (.cst (.str "at")) (.c (.call "_law_below" (.c (.loc 0) (.c (.cst (.int 4)) .n))) .n))) .n))) .n))))
 .n))⟩
def d__law_test : FDef := ⟨["_law_d"], ["_law_d", "_law_word", "_law_first", "_law_test_here"],
 (.c (.asg 1 (.call "_law_pick" (.c (.loc 0) (.c (.lst (.c (.cst (.str "same")) (.c (.cst (.str "like")) (.c (.cst (.str "in")) (.c (.cst (.str "less")) (.c (.cst (.str "in")) (.c (.cst (.str "like")) .n))))))) .n))))
 (.c (.asg 2 (.call "_law_val" (.c (.loc 0) .n)))
 (.c (.asg 3 (.tup (.c (.loc 1) (.c (.loc 2) (.c (.call "_law_val" (.c (.loc 0) .n)) .n)))))
 (.c (.ife (.cmp .eq (.call "_law_below" (.c (.loc 0) (.c (.cst (.int 4)) .n))) (.cst (.int 0))) (.c (.ret (.tup (.c (.cst (.str "not")) (.c (.loc 3) .n))))
 .n) .n)
 (.c (.ret (.loc 3))
 .n)))))⟩
def d__law_statement : FDef := ⟨["_law_d", "_law_deep"], ["_law_d", "_law_deep", "_law_chance", "_law_value", "_law_test_here", "_law_first"],
 (.c (.asg 2 (.call "_law_below" (.c (.loc 0) (.c (.cst (.int 10)) .n))))
 (.c (.ife (.cmp .eq (.loc 2) (.cst (.int 0))) (.c (.ret (.tup (.c (.cst (.str "break")) .n)))
 .n) .n)
 (.c (.ife (.or_ (.cmp .lt (.loc 2) (.cst (.int 5))) (.cmp .eq (.loc 1) (.cst (.int 2)))) (.c (.asg 3 (.call "_law_val" (.c (.loc 0) .n)))
 (.c (.ife (.cmp .eq (.call "_law_below" (.c (.loc 0) (.c (.cst (.int 5)) .n))) (.cst (.int 0))) (.c (.asg 3 (.tup (.c (.cst (.str "copy")) (.c (.call "_law_pick" (.c (.loc 0) (.c (.lst (.c (.tup (.c (.cst (.str "item")) .n)) (.c (.tup (.c (.cst (.str "a")) .n)) (.c (.tup (.c (.cst (.str "b")) .n)) .n)))) .n))) .n))))
 .n) .n)
 (.c (.ret (.tup (.c (.cst (.str "set")) (.c (.call "_law_pick" (.c (.loc 0) (.c (.lst (.c (.cst (.str "a")) (.c (.cst (.str "a")) (.c (.cst (.str "b")) .n)))) .n))) (.c (.loc 3) .n)))))
 .n))) .n)
 (.c (.asg 4 (.call "_law_test" (.c (.loc 0) .n)))
 (.c (.asg 5 (.call "_law_block" (.c (.loc 0) (.c (.bin .add (.loc 1) (.cst (.int 1))) (.c (.cst (.int 2)) .n)))))
 (.c (.ret (.tup (.c (.cst (.str "if")) (.c (.loc 4) (.c (.loc 5) (.c (.call "_law_block" (.c (.loc 0) (.c (.bin .add (.loc 1) (.cst (.int 1))) (.c (.cst (.int 2)) .n)))) .n))))))
 .n))))))⟩
def d__law_block : FDef := ⟨["_law_d", "_law_deep", "_law_cap"], ["_law_d", "_law_deep", "_law_cap", "_law_k"],
 (.c (.ret (.bi .tuple (.c (.comp [3] (.call "_law_statement" (.c (.loc 0) (.c (.loc 1) .n))) (.one 3) (.r1 (.call "_law_below" (.c (.loc 0) (.c (.bin .add (.loc 2) (.cst (.int 1))) .n)))) (.cst (.bl true))) .n)))
 .n)⟩
def d__law_walk : FDef := ⟨["_law_block_here", "_law_head"], ["_law_block_here", "_law_head", "_law_found", "_law_k"],
 (.c (.asg 2 (.lst .n))
 (.c (.for_ (.one 3) (.r1 (.bi .len (.c (.loc 0) .n))) (.c (.ex (.met (.loc 2) "append" (.c (.tup (.c (.bin .add (.loc 1) (.tup (.c (.loc 3) .n))) (.c (.ix (.loc 0) (.loc 3)) .n))) .n)))
 (.c (.ife (.cmp .eq (.ix (.ix (.loc 0) (.loc 3)) (.cst (.int 0))) (.cst (.str "if"))) (.c (.asg 2 (.bin .add (.bin .add (.loc 2) (.call "_law_walk" (.c (.ix (.ix (.loc 0) (.loc 3)) (.cst (.int 2))) (.c (.bin .add (.loc 1) (.tup (.c (.loc 3) (.c (.cst (.int 0)) .n)))) .n)))) (.call "_law_walk" (.c (.ix (.ix (.loc 0) (.loc 3)) (.cst (.int 3))) (.c (.bin .add (.loc 1) (.tup (.c (.loc 3) (.c (.cst (.int 1)) .n)))) .n)))))
 .n) .n)
 .n)))
 (.c (.ret (.loc 2))
 .n)))⟩
def d__law_known : FDef := ⟨["_law_d"], ["_law_d", "_law_take_here", "_law_keep", "_law_word", "_law_rise", "_law_fall", "_law_empty", "_law_greatest", "_law_first", "_law_twice", "_law_other", "_law_last"],
 (.c (.asg 1 (.tup (.c (.tup (.c (.cst (.str "set")) (.c (.cst (.str "a")) (.c (.tup (.c (.cst (.str "item")) .n)) .n)))) .n)))
 (.c (.asg 2 (.tup (.c (.tup (.c (.cst (.str "set")) (.c (.cst (.str "b")) (.c (.tup (.c (.cst (.str "item")) .n)) .n)))) .n)))
 (.c (.asg 3 (.call "_law_pick" (.c (.loc 0) (.c (.lst (.c (.cst (.str "in")) (.c (.cst (.str "like")) (.c (.cst (.str "same")) .n)))) .n))))
 (.c (.asg 4 (.tup (.c (.cst (.str "less")) (.c (.tup (.c (.cst (.str "a")) .n)) (.c (.tup (.c (.cst (.str "item")) .n)) .n)))))
 (.c (.asg 5 (.tup (.c (.cst (.str "less")) (.c (.tup (.c (.cst (.str "item")) .n)) (.c (.tup (.c (.cst (.str "a")) .n)) .n)))))
 (.c (.asg 6 (.tup (.c (.loc 3) (.c (.tup (.c (.cst (.str "a")) .n)) (.c (.tup (.c (.cst (.str "none")) .n)) .n)))))
 (.c (.asg 7 (.tup (.c (.tup (.c (.cst (.str "if")) (.c (.loc 6) (.c (.loc 1) (.c (.tup (.c (.tup (.c (.cst (.str "if")) (.c (.call "_law_pick" (.c (.loc 0) (.c (.lst (.c (.loc 4) (.c (.loc 5) .n))) .n))) (.c (.loc 1) (.c (.tup .n) .n))))) .n)) .n))))) .n)))
 (.c (.asg 8 (.tup (.c (.tup (.c (.cst (.str "if")) (.c (.tup (.c (.loc 3) (.c (.tup (.c (.cst (.str "item")) .n)) (.c (.tup (.c (.cst (.str "at")) (.c (.cst (.int 1)) .n))) .n)))) (.c (.bin .add (.loc 1) (.tup (.c (.tup (.c (.cst (.str "break")) .n)) .n))) (.c (.tup .n) .n))))) .n)))
 (.c (.asg 9 (.tup (.c (.tup (.c (.cst (.str "if")) (.c (.tup (.c (.loc 3) (.c (.tup (.c (.cst (.str "item")) .n)) (.c (.tup (.c (.cst (.str "a")) .n)) .n)))) (.c (.loc 2) (.c (.loc 1) .n))))) .n)))
 (.c (.asg 10 (.tup (.c (.tup (.c (.cst (.str "if")) (.c (.tup (.c (.cst (.str "not")) (.c (.tup (.c (.loc 3) (.c (.tup (.c (.cst (.str "item")) .n)) (.c (.tup (.c (.cst (.str "a")) .n)) .n)))) .n))) (.c (.bin .add (.tup (.c (.tup (.c (.cst (.str "set")) (.c (.cst (.str "b")) (.c (.tup (.c (.cst (.str "a")) .n)) .n)))) .n)) (.loc 1)) (.c (.tup .n) .n))))) .n)))
 (.c (.asg 11 (.tup (.c (.tup (.c (.cst (.str "if")) (.c (.tup (.c (.loc 3) (.c (.tup (.c (.cst (.str "item")) .n)) (.c (.tup (.c (.cst (.str "item")) .n)) .n)))) (.c (.loc 1) (.c (.loc 2) .n))))) .n)))
 (.c (.ret (.call "_law_pick" (.c (.loc 0) (.c (.lst (.c (.loc 7) (.c (.loc 8) (.c (.loc 9) (.c (.loc 10) (.c (.loc 11) .n)))))) .n))))
 .n))))))))))))⟩
def d__law_small : FDef := ⟨["_law_d", "_law_cap"], ["_law_d", "_law_cap", "_law_block_here"],
 (.c (.ife (.cmp .eq (.call "_law_below" (.c (.loc 0) (.c (.cst (.int 3)) .n))) (.cst (.int 0))) (.c (.ret (.call "_law_known" (.c (.loc 0) .n)))
 .n) .n)
 (.c (.asg 2 (.call "_law_block" (.c (.loc 0) (.c (.cst (.int 0)) (.c (.cst (.int 3)) .n)))))
 (.c (.while_ (.cmp .gt (.bi .len (.c (.call "_law_walk" (.c (.loc 2) (.c (.tup .n) .n))) .n)) (.loc 1)) (.c (.asg 2 (.cut (.loc 2) (.cst .non) (.neg (.cst (.int 1)))))
 .n))
 (.c (.ret (.loc 2))
 .n))))⟩
def d__law_do : FDef := ⟨["_law_block_here", "_law_s", "_law_item"], ["_law_block_here", "_law_s", "_law_item", "_law_statement_here", "_law_side"],
 (.c (.for_ (.one 3) (.seq (.loc 0)) (.c (.ife (.ix (.loc 1) (.cst (.str "over"))) (.c (.retN)
 .n) .n)
 (.c (.ife (.cmp .eq (.ix (.loc 3) (.cst (.int 0))) (.cst (.str "break"))) (.c (.sub (.loc 1) (.cst (.str "over")) (.cst (.bl true)))
 .n) (.c (.ife (.cmp .eq (.ix (.loc 3) (.cst (.int 0))) (.cst (.str "set"))) (.c (.sub (.loc 1) (.ix (.loc 3) (.cst (.int 1))) (.call "_law_get" (.c (.ix (.loc 3) (.cst (.int 2))) (.c (.loc 1) (.c (.loc 2) .n)))))
 .n) (.c (.asg 4 (.cst (.int 3)))
 (.c (.ife (.call "_law_holds" (.c (.ix (.loc 3) (.cst (.int 1))) (.c (.loc 1) (.c (.loc 2) .n)))) (.c (.asg 4 (.cst (.int 2)))
 .n) .n)
 (.c (.ex (.call "_law_do" (.c (.ix (.loc 3) (.loc 4)) (.c (.loc 1) (.c (.loc 2) .n)))))
 .n))))
 .n))
 .n)))
 .n)⟩
def d__law_get : FDef := ⟨["_law_value", "_law_s", "_law_item"], ["_law_value", "_law_s", "_law_item", "_law_word", "_law_thing"],
 (.c (.asg 3 (.ix (.loc 0) (.cst (.int 0))))
 (.c (.ife (.cmp .eq (.loc 3) (.cst (.str "copy"))) (.c (.asg 4 (.call "_law_get" (.c (.ix (.loc 0) (.cst (.int 1))) (.c (.loc 1) (.c (.loc 2) .n)))))
 (.c (.ife (.cmp .isn (.loc 4) (.cst .non)) (.c (.ret (.cst .non))
 .n) .n)
 (.c (.sub (.loc 1) (.cst (.str "made")) (.bin .add (.ix (.loc 1) (.cst (.str "made"))) (.cst (.int 1))))
 (.c (.ret (.tup (.c (.ix (.loc 4) (.cst (.int 0))) (.c (.cst (.str "copy")) (.c (.ix (.loc 1) (.cst (.str "made"))) .n)))))
 .n)))) .n)
 (.c (.ife (.cmp .eq (.loc 3) (.cst (.str "at"))) (.c (.ret (.tup (.c (.ix (.loc 0) (.cst (.int 1))) (.c (.cst (.str "at")) (.c (.cst (.int 0)) .n)))))
 .n) .n)
 (.c (.ife (.cmp .eq (.loc 3) (.cst (.str "none"))) (.c (.ret (.cst .non))
 .n) .n)
 (.c (.ife (.cmp .eq (.loc 3) (.cst (.str "item"))) (.c (.ret (.loc 2))
 .n) .n)
 (.c (.ret (.ix (.loc 1) (.loc 3)))
 .n))))))⟩
def d__law_holds : FDef := ⟨["_law_test_here", "_law_s", "_law_item"], ["_law_test_here", "_law_s", "_law_item", "_law_one", "_law_other", "_law_equal_here"],
 (.c (.ife (.cmp .eq (.ix (.loc 0) (.cst (.int 0))) (.cst (.str "not"))) (.c (.ret (.not_ (.call "_law_holds" (.c (.ix (.loc 0) (.cst (.int 1))) (.c (.loc 1) (.c (.loc 2) .n))))))
 .n) .n)
 (.c (.asg 3 (.call "_law_get" (.c (.ix (.loc 0) (.cst (.int 1))) (.c (.loc 1) (.c (.loc 2) .n)))))
 (.c (.asg 4 (.call "_law_get" (.c (.ix (.loc 0) (.cst (.int 2))) (.c (.loc 1) (.c (.loc 2) .n)))))
 (.c (.ife (.cmp .eq (.ix (.loc 0) (.cst (.int 0))) (.cst (.str "same"))) (.c (.ret (.cmp .eq (.loc 3) (.loc 4)))
 .n) .n)
 (.c (.asg 5 (.and_ (.cmp .isn (.loc 3) (.cst .non)) (.cmp .isn (.loc 4) (.cst .non))))
 (.c (.ife (.and_ (.cmp .notn (.loc 3) (.cst .non)) (.cmp .notn (.loc 4) (.cst .non))) (.c (.asg 5 (.and_ (.cmp .ne (.ix (.loc 3) (.cst (.int 0))) (.cst (.str "odd"))) (.cmp .eq (.ix (.loc 3) (.cst (.int 0))) (.ix (.loc 4) (.cst (.int 0))))))
 (.c (.ife (.cmp .eq (.ix (.loc 0) (.cst (.int 0))) (.cst (.str "less"))) (.c (.ret (.and_ (.cmp .ne (.ix (.loc 3) (.cst (.int 0))) (.cst (.str "odd"))) (.and_ (.cmp .ne (.ix (.loc 4) (.cst (.int 0))) (.cst (.str "odd"))) (.cmp .lt (.ix (.loc 3) (.cst (.int 0))) (.ix (.loc 4) (.cst (.int 0)))))))
 .n) .n)
 .n)) .n)
 (.c (.ife (.cmp .eq (.ix (.loc 0) (.cst (.int 0))) (.cst (.str "less"))) (.c (.ret (.cst (.bl false)))
 .n) .n)
 (.c (.ret (.or_ (.loc 5) (.and_ (.cmp .eq (.ix (.loc 0) (.cst (.int 0))) (.cst (.str "in"))) (.cmp .eq (.loc 3) (.loc 4)))))
 .n))))))))⟩
def d__law_begin : FDef := ⟨[], [],
 (.c (.ret (.dsp false (.c (.cst (.str "a")) (.cst .non) (.c (.cst (.str "b")) (.cst .non) (.c (.cst (.str "over")) (.cst (.bl false)) (.c (.cst (.str "made")) (.cst (.int 0)) .n))))))
 .n)⟩
def d__law_take : FDef := ⟨["_law_block_here", "_law_s", "_law_item", "_law_manner"], ["_law_block_here", "_law_s", "_law_item", "_law_manner", "_law_thing"],
 (.c (.ife (.and_ (.cmp .eq (.loc 3) (.cst (.str "left"))) (.cmp .eq (.ix (.loc 2) (.cst (.int 0))) (.cst (.str "odd")))) (.c (.retN)
 .n) .n)
 (.c (.asg 4 (.tup (.c (.ix (.loc 2) (.cst (.int 0))) (.c (.cst (.str "item")) (.c (.ix (.loc 2) (.cst (.int 1))) .n)))))
 (.c (.ife (.cmp .eq (.loc 3) (.cst (.str "one"))) (.c (.asg 4 (.tup (.c (.ix (.loc 2) (.cst (.int 0))) (.c (.cst (.str "one")) (.c (.cst (.int 0)) .n)))))
 .n) .n)
 (.c (.ife (.cmp .eq (.loc 3) (.cst (.str "copy"))) (.c (.sub (.loc 1) (.cst (.str "made")) (.bin .add (.ix (.loc 1) (.cst (.str "made"))) (.cst (.int 1))))
 (.c (.asg 4 (.tup (.c (.ix (.loc 2) (.cst (.int 0))) (.c (.cst (.str "copy")) (.c (.ix (.loc 1) (.cst (.str "made"))) .n)))))
 .n)) .n)
 (.c (.ex (.call "_law_do" (.c (.loc 0) (.c (.loc 1) (.c (.loc 4) .n)))))
 .n)))))⟩
def d__law_told : FDef := ⟨["_law_s"], ["_law_s", "_law_words", "_law_name"],
 (.c (.asg 1 (.lst .n))
 (.c (.for_ (.one 2) (.seq (.lst (.c (.cst (.str "a")) (.c (.cst (.str "b")) .n)))) (.c (.ife (.cmp .isn (.ix (.loc 0) (.loc 2)) (.cst .non)) (.c (.ex (.met (.loc 1) "append" (.c (.cst (.str "none")) .n)))
 .n) (.c (.ex (.met (.loc 1) "append" (.c (.ix (.ix (.loc 0) (.loc 2)) (.cst (.int 0))) .n)))
 .n))
 .n))
 (.c (.ret (.tup (.c (.ix (.loc 1) (.cst (.int 0))) (.c (.ix (.loc 1) (.cst (.int 1))) (.c (.cmp .eq (.ix (.loc 0) (.cst (.str "a"))) (.ix (.loc 0) (.cst (.str "b")))) .n)))))
 .n)))⟩
def d__law_run : FDef := ⟨["_law_block_here", "_law_items", "_law_manner"], ["_law_block_here", "_law_items", "_law_manner", "_law_s", "_law_item"],
 (.c (.asg 3 (.call "_law_begin" .n))
 (.c (.for_ (.one 4) (.seq (.loc 1)) (.c (.ex (.call "_law_take" (.c (.loc 0) (.c (.loc 3) (.c (.loc 4) (.c (.loc 2) .n))))))
 .n))
 (.c (.ret (.call "_law_told" (.c (.loc 3) .n)))
 .n)))⟩
def d__law_some : FDef := ⟨["_law_d", "_law_many"], ["_law_d", "_law_many", "_law_found", "_law_k", "_law_worth", "_law_item"],
 (.c (.asg 2 (.lst .n))
 (.c (.for_ (.one 3) (.r1 (.call "_law_below" (.c (.loc 0) (.c (.bin .add (.loc 1) (.cst (.int 1))) .n)))) (.c (.asg 4 (.call "_law_pick" (.c (.loc 0) (.c (.lst (.c (.cst (.int 0)) (.c (.cst (.int 1)) (.c (.cst (.int 1)) (.c (.cst (.int 2)) (.c (.cst (.int 3)) (.c (.cst (.str "odd")) (.c (.cst (.str "odd")) .n)))))))) .n))))
 (.c (.asg 5 (.tup (.c (.loc 4) (.c (.call "_law_below" (.c (.loc 0) (.c (.cst (.int 3)) .n))) .n))))
 (.c (.ife (.and_ (.cmp .gt (.bi .len (.c (.loc 2) .n)) (.cst (.int 0))) (.cmp .eq (.call "_law_below" (.c (.loc 0) (.c (.cst (.int 3)) .n))) (.cst (.int 0)))) (.c (.asg 5 (.call "_law_pick" (.c (.loc 0) (.c (.loc 2) .n))))
 .n) .n)
 (.c (.ex (.met (.loc 2) "append" (.c (.loc 5) .n)))
 .n)))))
 (.c (.ret (.bi .tuple (.c (.loc 2) .n)))
 .n)))⟩
def d__law_refused : FDef := ⟨["_law_loop", "_law_items"], ["_law_loop", "_law_items", "_law_found", "e"],
 (.c (.asg 2 (.cst .non))
 (.c (.try_ none (.call "run" (.c (.loc 0) (.c (.loc 1) .n))) (.c "InvalidItems" (some 3) (.c (.asg 2 (.exf "index"))
 .n) .n))
 (.c (.ret (.loc 2))
 .n)))⟩
def d__law_led : FDef := ⟨["_law_loop", "_law_block_here", "_law_items"], ["_law_loop", "_law_block_here", "_law_items", "_law_runner", "_law_s", "_law_k"],
 (.c (.asg 3 (.mk "Runner" (.c (.loc 0) .n)))
 (.c (.asg 4 (.call "_law_begin" .n))
 (.c (.for_ (.one 5) (.r1 (.bi .len (.c (.loc 2) .n))) (.c (.ex (.call "_law_take" (.c (.loc 1) (.c (.loc 4) (.c (.ix (.loc 2) (.loc 5)) (.c (.cst (.str "item")) .n))))))
 (.c (.ife (.or_ (.not_ (.call "_law_equal" (.c (.met (.loc 3) "take" (.c (.ix (.loc 2) (.loc 5)) .n)) (.c (.call "_law_told" (.c (.loc 4) .n)) .n)))) (.not_ (.call "_law_equal" (.c (.att (.loc 3) "told") (.c (.call "_law_told" (.c (.loc 4) .n)) .n))))) (.c (.ret (.cst (.bl false)))
 .n) .n)
 (.c (.ife (.or_ (.cmp .ne (.att (.loc 3) "is_over") (.ix (.loc 4) (.cst (.str "over")))) (.or_ (.cmp .ne (.att (.loc 3) "taken") (.cut (.loc 2) (.cst .non) (.bin .add (.loc 5) (.cst (.int 1))))) (.cmp .ne (.bi .len (.c (.loc 3) .n)) (.bin .add (.loc 5) (.cst (.int 1)))))) (.c (.ret (.cst (.bl false)))
 .n) .n)
 .n))))
 (.c (.for_ (.one 5) (.r3 (.bi .len (.c (.loc 2) .n)) (.cst (.int 0)) (.neg (.cst (.int 1)))) (.c (.ife (.or_ (.not_ (.met (.loc 3) "undo" .n)) (.not_ (.call "_law_equal" (.c (.att (.loc 3) "told") (.c (.call "_law_run" (.c (.loc 1) (.c (.cut (.loc 2) (.cst .non) (.bin .sub (.loc 5) (.cst (.int 1)))) (.c (.cst (.str "item")) .n)))) .n))))) (.c (.ret (.cst (.bl false)))
 .n) .n)
 .n))
 (.c (.ret (.and_ (.not_ (.met (.loc 3) "undo" .n)) (.cmp .eq (.att (.loc 3) "taken") (.tup .n))))
 .n)))))⟩
def d_law : FDef := ⟨["_law_script"], ["_law_script", "_law_d", "_law_lap", "_law_block_here", "_law_loop", "_law_items", "_law_due", "_law_worth", "_law_mark", "_law_others", "_law_bad", "_law_at"],
 (.c (.asg 1 (.call "_law_random" (.c (.loc 0) (.c (.cst (.int 2)) .n))))
 (.c (.for_ (.one 2) (.r1 (.cst (.int 3))) (.c (.asg 3 (.call "_law_small" (.c (.loc 1) (.c (.cst (.int 8)) .n))))
 (.c (.asg 4 (.mk "Loop" (.c (.loc 3) .n)))
 (.c (.asg 5 (.call "_law_some" (.c (.loc 1) (.c (.cst (.int 10)) .n))))
 (.c (.asg 6 (.call "_law_run" (.c (.loc 3) (.c (.loc 5) (.c (.cst (.str "item")) .n)))))
 (.c (.asg 9 (.bi .tuple (.c (.comp [7, 8] (.tup (.c (.loc 7) (.c (.bin .sub (.cst (.int 100)) (.bin .mul (.cst (.int 7)) (.loc 8))) .n))) (.many [7, 8]) (.seq (.loc 5)) (.cst (.bl true))) .n)))
 (.c (.ife (.or_ (.not_ (.call "_law_equal" (.c (.call "run" (.c (.loc 4) (.c (.loc 5) .n))) (.c (.loc 6) .n)))) (.not_ (.call "_law_equal" (.c (.call "run" (.c (.loc 4) (.c (.loc 9) .n))) (.c (.loc 6) .n))))) (.c (.ret (.cst (.bl false)))
 .n) .n)
 (.c (.ife (.not_ (.call "_law_led" (.c (.loc 4) (.c (.loc 3) (.c (.loc 5) .n))))) (.c (.ret (.cst (.bl false)))
 .n) .n)
 (.c (.asg 10 (.call "_law_pick" (.c (.loc 1) (.c (.lst (.c (.cst .non) (.c (.tup (.c (.cst (.int 4)) (.c (.cst (.int 0)) .n))) (.c (.tup (.c (.cst (.str "even")) (.c (.cst (.int 0)) .n))) (.c (.tup (.c (.cst (.int 1)) .n)) (.c (.tup (.c (.cst (.int 1)) (.c (.neg (.cst (.int 1))) .n))) (.c (.tup (.c (.cst (.bl true)) (.c (.cst (.int 0)) .n))) (.c (.tup (.c (.cst (.int 1)) (.c (.cst (.bl true)) .n))) (.c (.lst (.c (.cst (.int 1)) (.c (.cst (.int 0)) .n))) (.c (.tup (.c (.cst .non) (.c (.cst (.int 0)) .n))) (.c (.cst (.int 2)) .n))))))))))) .n))))
 (.c (.asg 11 (.call "_law_below" (.c (.loc 1) (.c (.bin .add (.bi .len (.c (.loc 5) .n)) (.cst (.int 1))) .n))))
 (.c (.ife (.cmp .ne (.call "_law_refused" (.c (.loc 4) (.c (.bin .add (.bin .add (.bin .add (.cut (.loc 5) (.cst .non) (.loc 11)) (.tup (.c (.loc 10) .n))) (.cut (.loc 5) (.loc 11) (.cst .non))) (.tup (.c (.cst (.int 7)) .n))) .n))) (.loc 11)) (.c (.ret (.cst (.bl false)))
 .n) .n)
 (.c (.ife (.or_ (.cmp .ne (.call "_law_refused" (.c (.loc 4) (.c (.bi .list (.c (.loc 5) .n)) .n))) (.neg (.cst (.int 1)))) (.cmp .ne (.call "_law_refused" (.c (.loc 4) (.c (.cst .non) .n))) (.neg (.cst (.int 1))))) (.c (.ret (.cst (.bl false)))
 .n) .n)
 .n))))))))))))
 (.c (.ret (.cst (.bl true)))
 .n)))⟩
end Uk
namespace Uk
open PySem PySem.Spec PyProof.Rows L2
def top (i : Nat) : Stmt := PySem.Challenge.pw_unlikeself_k02_whole_runs.main.body.getD i (.Pass ⟨0, 0, 0, 0⟩)
def sub (s : Stmt) (j : Nat) : Stmt := match s with
  | .ClassDef (body := b) .. => b.getD j (.Pass ⟨0, 0, 0, 0⟩)
  | _ => .Pass ⟨0, 0, 0, 0⟩
abbrev e_is_integer : DE := ⟨"", "is_integer", top 10⟩
abbrev e_is_worth : DE := ⟨"", "is_worth", top 11⟩
abbrev e_is_item : DE := ⟨"", "is_item", top 12⟩
abbrev e_need_items : DE := ⟨"", "need_items", top 13⟩
abbrev e_are_same : DE := ⟨"", "are_same", top 14⟩
abbrev e_are_like : DE := ⟨"", "are_like", top 15⟩
abbrev e_is_less : DE := ⟨"", "is_less", top 16⟩
abbrev e_told_of : DE := ⟨"", "told_of", top 17⟩
abbrev e_PlanU_initU : DE := ⟨"Plan", "__init__", sub (top 19) 0⟩
abbrev e_HandsU_initU : DE := ⟨"Hands", "__init__", sub (top 20) 0⟩
abbrev e_Hands_fresh : DE := ⟨"Hands", "fresh", sub (top 20) 1⟩
abbrev e_Hands_value : DE := ⟨"Hands", "value", sub (top 20) 2⟩
abbrev e_Hands_holds : DE := ⟨"Hands", "holds", sub (top 20) 3⟩
abbrev e_Hands_execute : DE := ⟨"Hands", "execute", sub (top 20) 4⟩
abbrev e_least_mark : DE := ⟨"", "least_mark", top 21⟩
abbrev e_step : DE := ⟨"", "step", top 22⟩
abbrev e_run : DE := ⟨"", "run", top 25⟩
abbrev e_RunnerU_initU : DE := ⟨"Runner", "__init__", sub (top 26) 0⟩
abbrev e_Runner_told : DE := ⟨"Runner", "told", sub (top 26) 1⟩
abbrev e_Runner_taken : DE := ⟨"Runner", "taken", sub (top 26) 2⟩
abbrev e_Runner_is_over : DE := ⟨"Runner", "is_over", sub (top 26) 3⟩
abbrev e_Runner_take : DE := ⟨"Runner", "take", sub (top 26) 4⟩
abbrev e_Runner_undo : DE := ⟨"Runner", "undo", sub (top 26) 5⟩
abbrev e_RunnerU_lenU : DE := ⟨"Runner", "__len__", sub (top 26) 6⟩
abbrev e_blocks_of : DE := ⟨"", "blocks_of", top 30⟩
abbrev e_walked : DE := ⟨"", "walked", top 31⟩
abbrev e_numbers_in : DE := ⟨"", "numbers_in", top 32⟩
abbrev e_is_sound : DE := ⟨"", "is_sound", top 33⟩
abbrev e_LoopU_initU : DE := ⟨"Loop", "__init__", sub (top 34) 0⟩
abbrev e_Loop_block : DE := ⟨"Loop", "block", sub (top 34) 1⟩
abbrev e_Loop_statement : DE := ⟨"Loop", "statement", sub (top 34) 3⟩
abbrev e_Loop_base : DE := ⟨"Loop", "base", sub (top 34) 4⟩
abbrev e_Loop_plan : DE := ⟨"Loop", "plan", sub (top 34) 5⟩
abbrev e_LoopU_lenU : DE := ⟨"Loop", "__len__", sub (top 34) 7⟩
abbrev e_LoopU_eqU : DE := ⟨"Loop", "__eq__", sub (top 34) 8⟩
abbrev e__law_random : DE := ⟨"", "_law_random", top 36⟩
abbrev e__law_below : DE := ⟨"", "_law_below", top 37⟩
abbrev e__law_pick : DE := ⟨"", "_law_pick", top 38⟩
abbrev e__law_equal : DE := ⟨"", "_law_equal", top 39⟩
abbrev e__law_val : DE := ⟨"", "_law_val", top 40⟩
abbrev e__law_test : DE := ⟨"", "_law_test", top 41⟩
abbrev e__law_statement : DE := ⟨"", "_law_statement", top 42⟩
abbrev e__law_block : DE := ⟨"", "_law_block", top 43⟩
abbrev e__law_walk : DE := ⟨"", "_law_walk", top 44⟩
abbrev e__law_known : DE := ⟨"", "_law_known", top 45⟩
abbrev e__law_small : DE := ⟨"", "_law_small", top 46⟩
abbrev e__law_do : DE := ⟨"", "_law_do", top 47⟩
abbrev e__law_get : DE := ⟨"", "_law_get", top 48⟩
abbrev e__law_holds : DE := ⟨"", "_law_holds", top 49⟩
abbrev e__law_begin : DE := ⟨"", "_law_begin", top 50⟩
abbrev e__law_take : DE := ⟨"", "_law_take", top 51⟩
abbrev e__law_told : DE := ⟨"", "_law_told", top 52⟩
abbrev e__law_run : DE := ⟨"", "_law_run", top 53⟩
abbrev e__law_some : DE := ⟨"", "_law_some", top 54⟩
abbrev e__law_refused : DE := ⟨"", "_law_refused", top 55⟩
abbrev e__law_led : DE := ⟨"", "_law_led", top 56⟩
abbrev e_law : DE := ⟨"", "law", top 57⟩
abbrev x_InvalidLoop : DE := ⟨"InvalidLoop", "__init__", sub (top 3) 0⟩
abbrev x_UnknownPath : DE := ⟨"UnknownPath", "__init__", sub (top 4) 0⟩
abbrev x_InvalidItems : DE := ⟨"InvalidItems", "__init__", sub (top 5) 0⟩
def pd : PgD where
  ds := [(e_is_integer, d_is_integer), (e_is_worth, d_is_worth), (e_is_item, d_is_item), (e_need_items, d_need_items), (e_are_same, d_are_same), (e_are_like, d_are_like), (e_is_less, d_is_less), (e_told_of, d_told_of), (e_PlanU_initU, d_PlanU_initU), (e_HandsU_initU, d_HandsU_initU), (e_Hands_fresh, d_Hands_fresh), (e_Hands_value, d_Hands_value), (e_Hands_holds, d_Hands_holds), (e_Hands_execute, d_Hands_execute), (e_least_mark, d_least_mark), (e_step, d_step), (e_run, d_run), (e_RunnerU_initU, d_RunnerU_initU), (e_Runner_told, d_Runner_told), (e_Runner_taken, d_Runner_taken), (e_Runner_is_over, d_Runner_is_over), (e_Runner_take, d_Runner_take), (e_Runner_undo, d_Runner_undo), (e_RunnerU_lenU, d_RunnerU_lenU), (e_blocks_of, d_blocks_of), (e_walked, d_walked), (e_numbers_in, d_numbers_in), (e_is_sound, d_is_sound), (e_LoopU_initU, d_LoopU_initU), (e_Loop_block, d_Loop_block), (e_Loop_statement, d_Loop_statement), (e_Loop_base, d_Loop_base), (e_Loop_plan, d_Loop_plan), (e_LoopU_lenU, d_LoopU_lenU), (e_LoopU_eqU, d_LoopU_eqU), (e__law_random, d__law_random), (e__law_below, d__law_below), (e__law_pick, d__law_pick), (e__law_equal, d__law_equal), (e__law_val, d__law_val), (e__law_test, d__law_test), (e__law_statement, d__law_statement), (e__law_block, d__law_block), (e__law_walk, d__law_walk), (e__law_known, d__law_known), (e__law_small, d__law_small), (e__law_do, d__law_do), (e__law_get, d__law_get), (e__law_holds, d__law_holds), (e__law_begin, d__law_begin), (e__law_take, d__law_take), (e__law_told, d__law_told), (e__law_run, d__law_run), (e__law_some, d__law_some), (e__law_refused, d__law_refused), (e__law_led, d__law_led), (e_law, d_law)]
  xs := [x_InvalidLoop, x_UnknownPath, x_InvalidItems]
  cons := [("ODD", (.str "odd")), ("MOST_WORTH", (.int 3)), ("WRITTEN", (.int (-1))), ("START", (.tup [.non, .non, (.bl false)])), ("MOST_STATEMENTS", (.int 8)), ("DEEPEST", (.int 2))]
  exns := [("InvalidLoop", some "path"), ("UnknownPath", some "path"), ("InvalidItems", some "index")]
  cls := ["Plan", "Hands", "Runner", "Loop"]
  prop := [("Runner", "told"), ("Runner", "taken"), ("Runner", "is_over"), ("Loop", "block")]
  fld := [("Plan", "block_told"), ("Plan", "is_copying"), ("Plan", "is_skipping"), ("Hands", "held"), ("Hands", "is_done"), ("Hands", "lowest"), ("Runner", "own_plan"), ("Runner", "states"), ("Runner", "taken_items"), ("Loop", "own_block"), ("Loop", "rows")]
  base := fun _ _ => false
theorem good : Good pd where
  ck := by kernel_rfl
  bi := ⟨fun _ _ _ _ _ _ us hl => match us, hl with
    | [_], _ => rfl,
    fun _ _ _ _ _ _ us hl => match us, hl with
    | [_], _ => rfl,
    fun _ _ _ _ _ _ us hl => match us, hl with
    | [_], _ => rfl,
    fun _ _ _ _ _ _ us hl => match us, hl with
    | [_], _ => rfl,
    fun _ _ _ _ _ _ us hl => match us, hl with
    | [_, _], _ => rfl,
    fun _ _ _ _ _ _ us hl => match us, hl with
    | [_, _], _ => rfl,
    fun _ _ _ _ _ _ us hl => match us, hl with
    | [_, _], _ => rfl,
    fun _ _ _ _ _ _ us hl => match us, hl with
    | [_, _], _ => rfl,
    fun _ _ _ _ _ _ us hl => match us, hl with
    | [_, _, _, _], _ => rfl,
    fun _ _ _ _ _ _ us hl => match us, hl with
    | [_, _, _, _], _ => rfl,
    fun _ _ _ _ _ _ us hl => match us, hl with
    | [_, _], _ => rfl,
    fun _ _ _ _ _ _ us hl => match us, hl with
    | [_, _, _], _ => rfl,
    fun _ _ _ _ _ _ us hl => match us, hl with
    | [_, _, _], _ => rfl,
    fun _ _ _ _ _ _ us hl => match us, hl with
    | [_, _, _], _ => rfl,
    fun _ _ _ _ _ _ us hl => match us, hl with
    | [_], _ => rfl,
    fun _ _ _ _ _ _ us hl => match us, hl with
    | [_, _, _, _], _ => rfl,
    fun _ _ _ _ _ _ us hl => match us, hl with
    | [_, _], _ => rfl,
    fun _ _ _ _ _ _ us hl => match us, hl with
    | [_, _], _ => rfl,
    fun _ _ _ _ _ _ us hl => match us, hl with
    | [_], _ => rfl,
    fun _ _ _ _ _ _ us hl => match us, hl with
    | [_], _ => rfl,
    fun _ _ _ _ _ _ us hl => match us, hl with
    | [_], _ => rfl,
    fun _ _ _ _ _ _ us hl => match us, hl with
    | [_, _], _ => rfl,
    fun _ _ _ _ _ _ us hl => match us, hl with
    | [_], _ => rfl,
    fun _ _ _ _ _ _ us hl => match us, hl with
    | [_], _ => rfl,
    fun _ _ _ _ _ _ us hl => match us, hl with
    | [_], _ => rfl,
    fun _ _ _ _ _ _ us hl => match us, hl with
    | [_, _], _ => rfl,
    fun _ _ _ _ _ _ us hl => match us, hl with
    | [_], _ => rfl,
    fun _ _ _ _ _ _ us hl => match us, hl with
    | [_, _], _ => rfl,
    fun _ _ _ _ _ _ us hl => match us, hl with
    | [_, _], _ => rfl,
    fun _ _ _ _ _ _ us hl => match us, hl with
    | [_], _ => rfl,
    fun _ _ _ _ _ _ us hl => match us, hl with
    | [_, _], _ => rfl,
    fun _ _ _ _ _ _ us hl => match us, hl with
    | [_], _ => rfl,
    fun _ _ _ _ _ _ us hl => match us, hl with
    | [_], _ => rfl,
    fun _ _ _ _ _ _ us hl => match us, hl with
    | [_], _ => rfl,
    fun _ _ _ _ _ _ us hl => match us, hl with
    | [_, _], _ => rfl,
    fun _ _ _ _ _ _ us hl => match us, hl with
    | [_, _], _ => rfl,
    fun _ _ _ _ _ _ us hl => match us, hl with
    | [_, _], _ => rfl,
    fun _ _ _ _ _ _ us hl => match us, hl with
    | [_, _], _ => rfl,
    fun _ _ _ _ _ _ us hl => match us, hl with
    | [_, _], _ => rfl,
    fun _ _ _ _ _ _ us hl => match us, hl with
    | [_], _ => rfl,
    fun _ _ _ _ _ _ us hl => match us, hl with
    | [_], _ => rfl,
    fun _ _ _ _ _ _ us hl => match us, hl with
    | [_, _], _ => rfl,
    fun _ _ _ _ _ _ us hl => match us, hl with
    | [_, _, _], _ => rfl,
    fun _ _ _ _ _ _ us hl => match us, hl with
    | [_, _], _ => rfl,
    fun _ _ _ _ _ _ us hl => match us, hl with
    | [_], _ => rfl,
    fun _ _ _ _ _ _ us hl => match us, hl with
    | [_, _], _ => rfl,
    fun _ _ _ _ _ _ us hl => match us, hl with
    | [_, _, _], _ => rfl,
    fun _ _ _ _ _ _ us hl => match us, hl with
    | [_, _, _], _ => rfl,
    fun _ _ _ _ _ _ us hl => match us, hl with
    | [_, _, _], _ => rfl,
    fun _ _ _ _ _ _ us hl => match us, hl with
    | [], _ => rfl,
    fun _ _ _ _ _ _ us hl => match us, hl with
    | [_, _, _, _], _ => rfl,
    fun _ _ _ _ _ _ us hl => match us, hl with
    | [_], _ => rfl,
    fun _ _ _ _ _ _ us hl => match us, hl with
    | [_, _, _], _ => rfl,
    fun _ _ _ _ _ _ us hl => match us, hl with
    | [_, _], _ => rfl,
    fun _ _ _ _ _ _ us hl => match us, hl with
    | [_, _], _ => rfl,
    fun _ _ _ _ _ _ us hl => match us, hl with
    | [_, _, _], _ => rfl,
    fun _ _ _ _ _ _ us hl => match us, hl with
    | [_], _ => rfl, trivial⟩
  ex := ⟨⟨x_InvalidLoop, by simp [pd], rfl, rfl, by decide, ⟨_, _, _, _, _, _, rfl, rfl, rfl⟩, fldN_path⟩, ⟨x_UnknownPath, by simp [pd], rfl, rfl, by decide, ⟨_, _, _, _, _, _, rfl, rfl, rfl⟩, fldN_path⟩, ⟨x_InvalidItems, by simp [pd], rfl, rfl, by decide, ⟨_, _, _, _, _, _, rfl, rfl, rfl⟩, fldN_index⟩, trivial⟩
  nk := by decide
  px := by decide
end Uk
end
section
set_option Elab.async false
set_option linter.all false
set_option maxRecDepth 100000
set_option autoImplicit false
set_option maxHeartbeats 0
namespace Uk
open PySem PySem.Spec PyProof.Rows L2
def nm0 : List PySem.Str := ["_wall", "UnlikeError", "InvalidLoop", "UnknownPath", "InvalidItems", "ODD", "MOST_WORTH", "WRITTEN", "is_integer", "is_worth", "is_item", "need_items", "are_same", "are_like", "is_less", "told_of", "Plan", "Hands", "least_mark", "step", "START", "run", "Runner", "MOST_STATEMENTS", "DEEPEST", "blocks_of", "walked", "numbers_in", "is_sound", "Loop"]
def nm1 : List PySem.Str := ["_law_random", "_law_below", "_law_pick", "_law_equal", "_law_val", "_law_test", "_law_statement", "_law_block", "_law_walk", "_law_known", "_law_small", "_law_do", "_law_get", "_law_holds", "_law_begin", "_law_take", "_law_told", "_law_run", "_law_some", "_law_refused", "_law_led"]
def nms : List PySem.Str := nm0 ++ nm1
abbrev Rw : PySem.W.OpenRow := PySem.W.OpenLaw.row PySem.Challenge.rw_unlikeself_k02_whole_runs
def ob (s : PySem.W.SharedT) : AlU := obsUG 7 pd (HandSHeadRun.getT s)
theorem ob_eq (s : PySem.W.SharedT) : ob s = (hookU 7 pd).obs s.abs := obsUG_eq (HandSHeadRun.getT_eq s)
theorem run (w : World) : HandSHeadRun.RunEq Rw (PySem.W.view Rw.prog [57]) (hookU 7 pd) ob 6000 nms w := by
  intro os
  kernel_rfl
end Uk
open PySem PySem.W PySem.Calls PyProof.Rows
theorem Uk.holds (S : Uk.Says Uk.pd 63 40) : PySem.Challenge.rw_unlikeself_k02_whole_runs.Holds := by
  w_on; o_law
  refine HandSHeadRun.head_any (r := OpenLaw.row PySem.Challenge.rw_unlikeself_k02_whole_runs) (q := view (OpenLaw.row PySem.Challenge.rw_unlikeself_k02_whole_runs).prog [57]) (H := Uk.hookU 7 Uk.pd) (ob := Uk.ob) (M := 6000) (loose := Uk.nms) (d := HandSHeadRun.topDef (OpenLaw.row PySem.Challenge.rw_unlikeself_k02_whole_runs).prog 57) (kwd := []) Uk.ob_eq
    (by kernel_rfl) (fun s => by kernel_rfl) Uk.run (by kernel_rfl) (by kernel_rfl) (by kernel_rfl) (by rfl) (by first | assumption | decide +kernel) (by decide +kernel) ⟨rfl, rfl, rfl, rfl, rfl, by decide +kernel⟩ ?hw ?hc
  case hw => w_witness2
  case hc => exact Uk.law_walk (e := Uk.e_law) (fd := Uk.d_law) (x := "_law_script") Uk.good (by simp [Uk.pd]) rfl rfl (by kernel_rfl) rfl rfl (by decide) (by kernel_rfl) (by kernel_rfl) ⟨rfl, by decide, by decide⟩ S
end
section
set_option Elab.async false
set_option linter.all false
set_option maxRecDepth 100000
set_option autoImplicit false
set_option maxHeartbeats 1000000
namespace UkW
open Uk

abbrev P : Pg := pgOf pd
theorem fn_below : P.fn "" "_law_below" = some d__law_below := by rfl
theorem fn_pick : P.fn "" "_law_pick" = some d__law_pick := by rfl
theorem fn_random : P.fn "" "_law_random" = some d__law_random := by rfl
/-! ## The draws -/
def Ds (l : List D) : Prop := ∃ (a b : Int) (r : List Int), l = .int a :: .int b :: r.map D.int
theorem body_run {fd : FDef} {k f : String} (hf : P.fn k f = some fd) {n : Nat} {args : List D} {g : G} {Q : D → G → Prop} (hl : args.length = fd.ps.length) (h : Ok (exs ⟨P, call P n, call P (n - 1), none⟩ fd.body (args.map some ++ List.replicate (fd.N.length - args.length) none) g) fun z g => match z.2 with
    | .nx => Q .non g
    | .rt d => Q d g) : Ok (call P (n + 1) k f args g) Q := by
  rw [call_fn hf]
  exact runF_ok hl h
theorem get_setb {g : G} {i : Nat} {o o' : O} (h : g[i]? = some o) : (g.set i o')[i]? = some o' := get_set h
theorem below (n : Nat) (g : G) (i : Nat) (l : List D) (s : Int) (hs : 0 < s) (hs2 : s < 1073741824) (hg : g[i]? = some (.lst l)) (hl : Ds l) :
    Ok (call P (n + 1) "" "_law_below" [.ref i, .int s] g) (fun v g' => ∃ (t : Int) (l' : List D), v = .int t ∧ 0 ≤ t ∧ t < s ∧ Ds l' ∧ l'.length ≤ l.length ∧ g' = g.set i (.lst l')) := by
  obtain ⟨a, b, r, rfl⟩ := hl
  refine body_run fn_below rfl ?_
  have hi := get_lt hg
  have gx : ∀ k, getIx (.ref i) (.int k) g = orElse (atI (.int a :: .int b :: r.map D.int) k) fun v => .ok v g := fun k => getIx_ref hg k
  have fin : ∀ x : Int, 0 ≤ x % s ∧ x % s < s := fun x => ⟨Int.emod_nonneg _ (by omega), Int.emod_lt_of_pos _ hs⟩
  by_cases hb : b = 0
  · subst hb
    cases r with
    | nil =>
      simp [d__law_below, exs, exe, ev, evs, gx, len_ref hg, mod_pos _ _ _ hs, set_ref hg, getIx_ref (get_set hg)]
      exact ⟨(fin _).1, (fin _).2, _, ⟨(a * 48271 + 11) % 2147483647, 0, [], rfl⟩, by simp, rfl⟩
    | cons x r =>
      have e2 : (2 : Int) < (r.length : Int) + 1 + 1 + 1 := by omega
      have e3 : ∀ o o' : O, ((g.set i o).set i o')[i]? = some o' := fun o o' => get_set (get_set hg)
      by_cases hx : 0 < x
      · simp [d__law_below, exs, exe, ev, evs, gx, len_ref hg, mod_pos _ _ _ hs, fdiv_pos _ _ _ ⟨hs, hs2⟩, set_ref hg, getIx_ref (get_set hg), kind_lst hg, pop_ref hg, set_ref (get_set hg), hx, e2]
        exact ⟨(fin _).1, (fin _).2, _, ⟨a, x / s, r, rfl⟩, by simp, rfl⟩
      · simp [d__law_below, exs, exe, ev, evs, gx, len_ref hg, mod_pos _ _ _ hs, set_ref hg, getIx_ref (get_set hg), kind_lst hg, pop_ref hg, set_ref (get_set hg), hx, e2]
        exact ⟨(fin _).1, (fin _).2, _, ⟨(a * 48271 + 11) % 2147483647, x, r, rfl⟩, by simp, rfl⟩
  · by_cases hx : 0 < b
    · simp [d__law_below, exs, exe, ev, evs, gx, len_ref hg, hb, hx, mod_pos _ _ _ hs, fdiv_pos _ _ _ ⟨hs, hs2⟩, set_ref hg]
      exact ⟨(fin _).1, (fin _).2, _, ⟨a, b / s, r, rfl⟩, by simp, rfl⟩
    · simp [d__law_below, exs, exe, ev, evs, gx, len_ref hg, hb, hx, mod_pos _ _ _ hs, set_ref hg, getIx_ref (get_set hg)]
      exact ⟨(fin _).1, (fin _).2, _, ⟨(a * 48271 + 11) % 2147483647, b, r, rfl⟩, by simp, rfl⟩
/-! ## The random state -/
def Rd (g : G) (i : Nat) : Prop := ∃ l, g[i]? = some (.lst l) ∧ Ds l
/-- only the random state at i has changed, and things are new -/
def Fr (i : Nat) (g g' : G) : Prop := g.length ≤ g'.length ∧ (∀ (j : Nat) (o : O), j ≠ i → g[j]? = some o → g'[j]? = some o) ∧ Rd g' i
theorem Fr.refl {i : Nat} {g : G} (h : Rd g i) : Fr i g g := ⟨Nat.le_refl _, fun _ _ _ e => e, h⟩
theorem Fr.trans {i : Nat} {a b c : G} (h : Fr i a b) (h2 : Fr i b c) : Fr i a c := ⟨Nat.le_trans h.1 h2.1, fun j o n e => h2.2.1 j o n (h.2.1 j o n e), h2.2.2⟩
theorem Fr.gr {i : Nat} {a b : G} (h : Rd a i) (k : Gr a b) : Fr i a b := ⟨k.len, fun _ _ _ e => k.get e, let ⟨l, e, d⟩ := h; ⟨l, k.get e, d⟩⟩
theorem Fr.lt {i : Nat} {g : G} (h : Rd g i) : i < g.length := let ⟨_, e, _⟩ := h; get_lt e
theorem draw (n : Nat) (g : G) (i : Nat) (s : Int) (hs : 0 < s) (hs2 : s < 1073741824) (h : Rd g i) : Ok (call P (n + 1) "" "_law_below" [.ref i, .int s] g) (fun v g' => Fr i g g' ∧ g'.length = g.length ∧ ∃ t : Int, v = .int t ∧ 0 ≤ t ∧ t < s) := by
  obtain ⟨l, e, d⟩ := h
  refine (below n g i l s hs hs2 e d).mono fun v g' ⟨t, l', h1, h2, h3, h4, h5, h6⟩ => ?_
  subst h6
  refine ⟨⟨by simp, fun j o hj ej => by rw [List.getElem?_set_ne (Ne.symm hj)]; exact ej, l', get_set e, h4⟩, by simp, t, h1, h2, h3⟩
theorem pick (n : Nat) (g : G) (i j : Nat) (xs : List D) (hx : 0 < xs.length) (hx2 : xs.length < 1073741824) (h : Rd g i) (hj : g[j]? = some (.lst xs)) (hij : j ≠ i) : Ok (call P (n + 2) "" "_law_pick" [.ref i, .ref j] g) (fun v g' => Fr i g g' ∧ g'.length = g.length ∧ v ∈ xs) := by
  refine body_run fn_pick rfl ?_
  obtain ⟨v, g1, e1, f1, l1, t, rfl, h0, h1⟩ := (draw n g i xs.length (by omega) (by omega) h).to
  have e2 := f1.2.1 j _ hij hj
  obtain ⟨x, a1, a2, _⟩ := atI_int xs t h0 h1
  simp [d__law_pick, exs, exe, ev, evs, len_ref hj, e1, getIx_ref e2, a1]
  exact ⟨f1, l1, a2⟩
end UkW
end
section
set_option Elab.async false
set_option linter.all false
set_option maxRecDepth 100000
set_option autoImplicit false
set_option maxHeartbeats 1000000
namespace UkW
open Uk
/-! ## The terms of a loop's text -/
inductive Part : Nat → D → Prop
  | at (k : Nat) (x : D) (hx : x.dep = 0) : Part (k + 1) (.tup [.str "at", x])
  | op (k : Nat) (h : String) (hh : h ≠ "at") (ps : List D) (hl : ps.length ≤ 2) (hp : ∀ p, p ∈ ps → Part k p) : Part (k + 1) (.tup (.str h :: ps))
mutual
def nums : D → List D
  | .tup (.str "at" :: x :: _) => [x]
  | .tup (_ :: ps) => numss ps
  | _ => []
def numss : List D → List D
  | [] => []
  | p :: ps => nums p ++ numss ps
end
theorem numss_app : ∀ xs ys : List D, numss (xs ++ ys) = numss xs ++ numss ys
  | [], ys => by simp [numss]
  | x :: xs, ys => by
    show nums x ++ numss (xs ++ ys) = (nums x ++ numss xs) ++ numss ys
    rw [numss_app xs ys, List.append_assoc]
theorem numss_one (x : D) : numss [x] = nums x := by simp [numss]
theorem numss_take (i : Nat) (xs : List D) : (numss (xs.take i)).length ≤ (numss xs).length := by
  have e := numss_app (xs.take i) (xs.drop i)
  rw [List.take_append_drop] at e
  rw [e, List.length_append]
  omega
theorem nums_op {h : String} (hh : h ≠ "at") (ps : List D) : nums (.tup (.str h :: ps)) = numss ps := by
  unfold nums
  split
  · rename_i e
    cases e
    exact absurd rfl hh
  · rename_i e
    cases e
    rfl
  · rename_i hn
    exact absurd rfl (hn _ _)
theorem nums_len : ∀ (k : Nat) (p : D), Part k p → (nums p).length ≤ 2 ^ k := by
  intro k
  induction k with
  | zero => intro p h; cases h
  | succ k ih =>
    intro p h
    cases h with
    | «at» _ x hx => show 1 ≤ _; exact Nat.one_le_two_pow
    | op _ hd hh ps hl hp =>
      rw [nums_op hh]
      match ps, hl with
      | [], _ => simp [numss]
      | [a], _ =>
        rw [numss_one]
        have := ih a (hp a (by simp))
        rw [Nat.pow_succ]
        omega
      | [a, b], _ =>
        have h1 := ih a (hp a (by simp))
        have h2 := ih b (hp b (by simp))
        rw [show numss [a, b] = nums a ++ nums b from by simp [numss], List.length_append, Nat.pow_succ]
        omega
      | _ :: _ :: _ :: _, hl => simp at hl
theorem fn_numbers : P.fn "" "numbers_in" = some d_numbers_in := by rfl
theorem numbers_ok : ∀ (k : Nat) (p : D), Part k p → k ≤ 10 → ∀ (n : Nat) (g : G), Ok (call P (n + k) "" "numbers_in" [p] g) fun v g' => NewL g (nums p) v g' := by
  intro k
  induction k with
  | zero => intro p h; cases h
  | succ k ih =>
    intro p h hk n g
    refine body_run (n := n + k) fn_numbers rfl ?_
    cases h with
    | «at» _ x hx =>
      simp [d_numbers_in, exs, exe, ev, evs]
      exact .mk
    | op _ hd hh ps hl hp =>
      simp [d_numbers_in, exs, exe, ev, evs, hh, evI, newT_ok (show ps.length ≤ line from by simp; omega)]
      refine Ok.mono (for_inv (fun i δ g' => (∃ x, δ = [some (.tup (.str hd :: ps)), some (.ref g.length), x]) ∧ Gr g g' ∧ g'[g.length]? = some (.lst (numss (ps.take i)))) (fun _ _ => False) ?step ?stop _ _ _ _ (by simp) ⟨⟨_, rfl⟩, .app _ _, by simp [numss]⟩) ?fin
      case stop => exact fun δ g' _ => item_tup_end g'
      case step =>
        rintro i _ g1 hi ⟨⟨x, rfl⟩, h3, h4⟩
        refine ⟨_, _, item_tup hi g1, rfl, ?_⟩
        obtain ⟨v, g2, e2, j, rfl, a1, a2, a3⟩ := (ih ps[i] (hp _ (List.getElem_mem hi)) (by omega) n g1).to
        have c1 := a1.get h4
        have len1 : (numss (ps.take i)).length + (nums ps[i]).length ≤ line := by
          have z := numss_take (i + 1) ps
          rw [take_next hi, numss_app, numss_one, List.length_append] at z
          have z2 := nums_len (k + 1) _ (Part.op k hd hh ps hl hp)
          rw [nums_op hh] at z2
          have z3 : 2 ^ (k + 1) ≤ 2 ^ 10 := Nat.pow_le_pow_right (by omega) (by omega)
          simp
          omega
        simp [kind_lst h4, e2, ext_ref c1 a3 len1]
        refine ⟨(h3.trans a1).set (Nat.le_refl _) _, ?_⟩
        rw [get_set c1, take_next hi, numss_app, numss_one]
      case fin =>
        intro z g' hz
        obtain ⟨e, f⟩ := z
        cases f with
        | rt d => exact hz.elim
        | nx =>
          obtain ⟨⟨x, rfl⟩, h3, h4⟩ := hz
          simp
          refine ⟨_, rfl, h3, Nat.le_refl _, ?_⟩
          rw [nums_op hh]
          simpa using h4
/-! ## Statements, the rows of a block -/
inductive St : Nat → D → Prop
  | brk (k : Nat) : St k (.tup [.str "break"])
  | set (k : Nat) (x : String) (v : D) (hv : Part 4 v) : St k (.tup [.str "set", .str x, v])
  | if_ (k : Nat) (t : D) (ht : Part 4 t) (a b : List D) (la : a.length ≤ 13) (lb : b.length ≤ 13) (ha : ∀ s, s ∈ a → St k s) (hb : ∀ s, s ∈ b → St k s) : St (k + 1) (.tup [.str "if", t, .tup a, .tup b])
theorem St.up {k : Nat} {s : D} (h : St k s) : St (k + 1) s := by
  induction h with
  | brk k => exact .brk _
  | set k x v hv => exact .set _ x v hv
  | if_ k t ht a b la lb ha hb iha ihb => exact .if_ _ t ht a b la lb iha ihb
abbrev Row : Type := List D × D
def rowsI (f : Nat → D → List Row) : Nat → List D → List Row
  | _, [] => []
  | i, s :: r => f i s ++ rowsI f (i + 1) r
theorem rowsI_app (f : Nat → D → List Row) : ∀ (a : List D) (i : Nat) (b : List D), rowsI f i (a ++ b) = rowsI f i a ++ rowsI f (i + a.length) b
  | [], i, b => by simp [rowsI]
  | s :: a, i, b => by
    show f i s ++ rowsI f (i + 1) (a ++ b) = (f i s ++ rowsI f (i + 1) a) ++ rowsI f (i + (a.length + 1)) b
    rw [rowsI_app f a (i + 1) b, List.append_assoc]
    congr 3
    omega
def blocksOf (s : D) : List D := match s with
  | .tup [.str "if", _, x, y] => [x, y]
  | _ => []
def dl (d : D) : List D := match d with
  | .tup xs => xs
  | _ => []
/-- the rows of a block: fuel, where it stands, its statements -/
def rows : Nat → List D → List D → List Row
  | 0, _, _ => []
  | k + 1, head, b => rowsI (fun i s => (head ++ [.int i], s) :: rowsI (fun j x => rows k (head ++ [.int i] ++ [.int j]) (dl x)) 0 (blocksOf s)) 0 b
def rowD (r : Row) : D := .tup [.tup r.1, r.2]
theorem rowsI_len {f : Nat → D → List Row} {m : Nat} : ∀ (b : List D) (i : Nat), (∀ j s, s ∈ b → (f j s).length ≤ m) → (rowsI f i b).length ≤ b.length * m
  | [], _, _ => by simp [rowsI]
  | s :: b, i, h => by
    have h1 := h i s List.mem_cons_self
    have h2 := rowsI_len b (i + 1) fun j s hs => h j s (List.mem_cons_of_mem _ hs)
    show (f i s ++ rowsI f (i + 1) b).length ≤ _
    rw [List.length_append, List.length_cons, Nat.succ_mul]
    omega
theorem rows_len : ∀ (k : Nat) (head b : List D), b.length ≤ 13 → (∀ s, s ∈ b → St k s) → (rows (k + 1) head b).length ≤ 30 ^ (k + 1)
  | 0, head, b, hl, hs => by
    unfold rows
    refine Nat.le_trans (rowsI_len (m := 1) b 0 fun j s h => ?_) (by omega)
    cases hs s h with
    | brk => simp [blocksOf, rowsI]
    | set x v hv => simp [blocksOf, rowsI]
  | k + 1, head, b, hl, hs => by
    unfold rows
    refine Nat.le_trans (rowsI_len (m := 1 + 2 * 30 ^ (k + 1)) b 0 fun j s h => ?_) ?_
    · cases hs s h with
      | brk => simp [blocksOf, rowsI]
      | set x v hv => simp [blocksOf, rowsI]
      | if_ _ t ht x y lx ly hx hy =>
        have h1 := rows_len k (head ++ [.int j] ++ [.int (0 : Nat)]) x lx hx
        have h2 := rows_len k (head ++ [.int j] ++ [.int (1 : Nat)]) y ly hy
        show (_ :: (rows (k + 1) (head ++ [.int j] ++ [.int (0 : Nat)]) x ++ (rows (k + 1) (head ++ [.int j] ++ [.int (1 : Nat)]) y ++ []))).length ≤ _
        simp only [List.length_cons, List.length_append, List.length_nil]
        omega
    · have h1 : 1 ≤ 30 ^ (k + 1) := Nat.one_le_pow _ _ (by omega)
      have h2 : b.length * (1 + 2 * 30 ^ (k + 1)) ≤ 13 * (1 + 2 * 30 ^ (k + 1)) := Nat.mul_le_mul_right _ hl
      rw [Nat.pow_succ 30 (k + 1)]
      omega
theorem fn_walked : P.fn "" "walked" = some d_walked := by rfl
theorem fn_blocks : P.fn "" "blocks_of" = some d_blocks_of := by rfl
theorem fn_lwalk : P.fn "" "_law_walk" = some d__law_walk := by rfl
theorem blocks_ok (n k : Nat) (s : D) (hs : St k s) (g : G) : Ok (call P (n + 1) "" "blocks_of" [s] g) fun v g' => v = .ref g.length ∧ g' = g ++ [.lst (blocksOf s)] := by
  refine body_run fn_blocks rfl ?_
  cases hs with
  | brk => simp [d_blocks_of, exs, exe, ev, evs, blocksOf]
  | set x v hv => simp [d_blocks_of, exs, exe, ev, evs, blocksOf]
  | if_ _ t ht x y lx ly hx hy => simp [d_blocks_of, exs, exe, ev, evs, blocksOf]
theorem St.blocks {k : Nat} {s : D} (h : St k s) : blocksOf s = [] ∨ ∃ (k' : Nat) (x y : List D), k = k' + 1 ∧ blocksOf s = [.tup x, .tup y] ∧ x.length ≤ 13 ∧ y.length ≤ 13 ∧ (∀ s, s ∈ x → St k' s) ∧ ∀ s, s ∈ y → St k' s := by
  cases h with
  | brk => exact .inl rfl
  | set x v hv => exact .inl rfl
  | if_ k' t ht x y lx ly hx hy => exact .inr ⟨k', x, y, rfl, rfl, lx, ly, hx, hy⟩
theorem rowsI_take {f : Nat → D → List Row} {b : List D} {i : Nat} (h : i < b.length) : rowsI f 0 (b.take (i + 1)) = rowsI f 0 (b.take i) ++ f i b[i] := by
  rw [take_next h, rowsI_app]
  have : (b.take i).length = i := by simp; omega
  rw [this]
  simp [rowsI]
theorem rowsI_take_len {f : Nat → D → List Row} (b : List D) (i : Nat) : (rowsI f 0 (b.take i)).length ≤ (rowsI f 0 b).length := by
  have e := rowsI_app f (b.take i) 0 (b.drop i)
  rw [List.take_append_drop] at e
  rw [e, List.length_append]
  omega
theorem walked_ok : ∀ (k : Nat) (head b : List D), b.length ≤ 13 → (∀ s, s ∈ b → St k s) → k ≤ 3 → head.length + 2 * k ≤ 50 → ∀ (n : Nat) (g : G),
    Ok (call P (n + k + 2) "" "walked" [.tup b, .tup head] g) fun v g' => NewL g ((rows (k + 1) head b).map rowD) v g' := by
  intro k
  induction k using Nat.strongRecOn with
  | ind k ih =>
  intro head b hl hs hk hh n g
  refine body_run (n := n + k + 1) fn_walked rfl ?_
  generalize hF : (fun (i : Nat) (s : D) => (((head ++ [.int i], s) : Row) :: rowsI (fun j x => rows k (head ++ [.int i] ++ [.int j]) (dl x)) 0 (blocksOf s))) = F
  have hrows : rows (k + 1) head b = rowsI F 0 b := by rw [← hF]; rfl
  have hlen := rows_len k head b hl hs
  have h30 : 30 ^ (k + 1) ≤ 30 ^ 4 := Nat.pow_le_pow_right (by omega) (by omega)
  have hbig : ∀ i, i < b.length → (rowsI F 0 (b.take (i + 1))).length ≤ 810000 := fun i hi => by
    have := rowsI_take_len (f := F) b (i + 1)
    rw [hrows] at hlen
    omega
  simp [d_walked, exs, exe, ev, evs, evI]
  refine Ok.mono (for_inv (fun i δ g' => (∃ x3 x4 x5 x6 x7, δ = [some (.tup b), some (.tup head), some (.ref g.length), x3, x4, x5, x6, x7]) ∧ Gr g g' ∧ g'[g.length]? = some (.lst ((rowsI F 0 (b.take i)).map rowD))) (fun _ _ => False) ?step ?stop _ _ _ _ (by simp) ⟨⟨_, _, _, _, _, rfl⟩, .app _ _, by simp [rowsI]⟩) ?fin
  case stop => exact fun δ g' _ => item_etup_end g'
  case fin =>
    intro z g' hz
    obtain ⟨e, f⟩ := z
    cases f with
    | rt d => exact hz.elim
    | nx =>
      obtain ⟨⟨x3, x4, x5, x6, x7, rfl⟩, h3, h4⟩ := hz
      simp
      refine ⟨_, rfl, h3, Nat.le_refl _, ?_⟩
      rw [hrows]
      simpa using h4
  case step =>
    rintro i _ g1 hi ⟨⟨x3, x4, x5, x6, x7, rfl⟩, h3, h4⟩
    refine ⟨_, _, item_etup hi g1, rfl, ?_⟩
    have hbl : b[i] ∈ b := List.getElem_mem hi
    have l1 : (head ++ [D.int (i : Int)]).length ≤ line := by simp; omega
    have l0 := rowsI_take_len (f := F) b i
    rw [← hrows] at l0
    have l2 : ((rowsI F 0 (b.take i)).map rowD).length < line := by simp; omega
    obtain ⟨v, g2, e2, rfl, rfl⟩ := (blocks_ok (n + k) k b[i] (hs _ hbl) (g1.set g.length (.lst ((rowsI F 0 (b.take i)).map rowD ++ [rowD (head ++ [.int i], b[i])])))).to
    have hm : rowD (head ++ [.int i], b[i]) = .tup [.tup (head ++ [.int i]), b[i]] := rfl
    rw [hm] at e2
    generalize hA : (rowsI F 0 (b.take i)).map rowD ++ [D.tup [.tup (head ++ [.int i]), b[i]]] = acc at e2
    generalize hB : blocksOf b[i] = bl at e2
    have e3 : (g1.set g.length (.lst acc) ++ [.lst bl])[g1.length]? = some (.lst bl) := by
      have := get_new (g1.set g.length (.lst acc)) (.lst bl)
      simpa using this
    have e4 : (g1.set g.length (.lst acc) ++ [.lst bl])[g.length]? = some (.lst acc) := get_app (get_set h4) _
    have hne : g1.length ≠ g.length := Nat.ne_of_gt (get_lt h4)
    have hFi : F i b[i] = (head ++ [.int i], b[i]) :: rowsI (fun j x => rows k (head ++ [.int i] ++ [.int j]) (dl x)) 0 bl := by rw [← hF, ← hB]
    have hgr : Gr g (g1.set g.length (.lst acc) ++ [.lst bl]) := (h3.set (Nat.le_refl _) _).trans (.app _ _)
    simp [newT_ok l1, kind_lst h4, app_ref h4 l2, hA, e2, enum_ref e3]
    generalize g1.set g.length (.lst acc) ++ [.lst bl] = g2 at e3 e4 hgr
    refine Ok.mono (for_inv (fun j δ g' => (∃ x6 x7, δ = [some (.tup b), some (.tup head), some (.ref g.length), some (.int i), some b[i], some (.tup (head ++ [.int i])), x6, x7]) ∧ Gr g g' ∧ g'[g1.length]? = some (.lst bl) ∧
      g'[g.length]? = some (.lst (acc ++ (rowsI (fun j x => rows k (head ++ [.int i] ++ [.int j]) (dl x)) 0 (bl.take j)).map rowD))) (fun _ _ => False) ?step2 ?stop2 _ _ _ _ (by simp) ⟨⟨_, _, rfl⟩, hgr, e3, by simpa [rowsI] using e4⟩) ?fin2
    case stop2 => exact fun δ g' h => item_eseq_end h.2.2.1
    case fin2 =>
      intro z g' hz
      obtain ⟨e, f⟩ := z
      cases f with
      | rt d => exact hz.elim
      | nx =>
        obtain ⟨⟨x6, x7, rfl⟩, h3, _, h4⟩ := hz
        simp
        refine ⟨h3, ?_⟩
        rw [h4, rowsI_take hi, hFi, ← hA]
        simp [rowD]
    case step2 =>
      rintro j _ g3 hj ⟨⟨x6, x7, rfl⟩, q1, q2, q3⟩
      refine ⟨_, _, item_eseq q2 hj, rfl, ?_⟩
      obtain hb0 | ⟨k', x, y, rfl, hbl2, lx, ly, sx, sy⟩ := (hs _ hbl).blocks
      · rw [hB] at hb0
        rw [hb0] at hj
        simp at hj
      · rw [hB] at hbl2
        subst hbl2
        have hjx : ∃ zs, [D.tup x, D.tup y][j] = .tup zs ∧ zs.length ≤ 13 ∧ ∀ s, s ∈ zs → St k' s := by
          match j, hj with
          | 0, _ => exact ⟨x, rfl, lx, sx⟩
          | 1, _ => exact ⟨y, rfl, ly, sy⟩
        obtain ⟨zs, ez, lz, sz⟩ := hjx
        obtain ⟨v, g4, e5, j2, rfl, a1, a2, a3⟩ := (ih k' (by omega) (head ++ [.int i] ++ [.int j]) zs lz sz (by omega) (by simp; omega) n g3).to
        have l3 : (head ++ [D.int (i : Int)] ++ [D.int (j : Int)]).length ≤ line := by simp; omega
        have c1 := a1.get q3
        have l4 : (acc ++ (rowsI (fun j x => rows (k' + 1) (head ++ [.int i] ++ [.int j]) (dl x)) 0 ([D.tup x, D.tup y].take j)).map rowD).length + ((rows (k' + 1) (head ++ [.int i] ++ [.int j]) zs).map rowD).length ≤ line := by
          have z1 := hbig i hi
          rw [rowsI_take hi, hFi] at z1
          have z2 := rowsI_take_len (f := fun (j : Nat) x => rows (k' + 1) (head ++ [.int i] ++ [.int j]) (dl x)) [D.tup x, D.tup y] (j + 1)
          rw [rowsI_take hj, ez] at z2
          rw [← hA]
          simp only [List.length_append, List.length_map, List.length_cons, List.length_nil, dl] at z1 z2 ⊢
          simp only [line_is]
          omega
        rw [ez]
        rw [show n + k' + 2 = n + (k' + 1) + 1 from by omega] at e5
        have hT : newT (head ++ [D.int i] ++ [D.int j]) g3 = .ok (.tup (head ++ [D.int i] ++ [D.int j])) g3 := newT_ok l3 _
        have hX := ext_ref c1 a3 l4
        generalize hr1 : (rowsI (fun j x => rows (k' + 1) (head ++ [.int i] ++ [.int j]) (dl x)) 0 ([D.tup x, D.tup y].take j)).map rowD = r1 at hX q3 c1
        generalize hr2 : (rows (k' + 1) (head ++ [.int i] ++ [.int j]) zs).map rowD = r2 at hX a3
        refine Ok.mono (Q := fun z g' => z = ([some (.tup b), some (.tup head), some (.ref g.length), some (.int i), some b[i], some (.tup (head ++ [.int i])), some (.int j), some (.tup zs)], .nx) ∧ g' = g4.set g.length (.lst (acc ++ r1 ++ r2))) ?_ ?_
        · generalize head ++ [D.int (i : Int)] = hd at hT e5
          simp [kind_lst q3, hT, e5, hX]
        · rintro _ _ ⟨rfl, rfl⟩
          refine ⟨⟨_, _, rfl⟩, (q1.trans a1).set (Nat.le_refl _) _, set_ne (a1.get q2) hne, ?_⟩
          rw [get_set c1, rowsI_take hj, ez, List.map_append, hr1]
          rw [show dl (D.tup zs) = zs from rfl, hr2, List.append_assoc]
end UkW
end
section
set_option Elab.async false
set_option linter.all false
set_option maxRecDepth 100000
set_option autoImplicit false
set_option maxHeartbeats 1000000
namespace UkW
open Uk
theorem getIx_nat {xs : List D} {i : Nat} (h : i < xs.length) (g : G) : getIx (.tup xs) (.int (i : Int)) g = .ok xs[i] g := by
  rw [getIx_tup, atI_nat xs i h, List.getElem?_eq_getElem h]
  rfl
theorem lwalk_ok : ∀ (k : Nat) (head b : List D), b.length ≤ 13 → (∀ s, s ∈ b → St k s) → k ≤ 3 → head.length + 2 * k ≤ 50 → ∀ (n : Nat) (g : G),
    Ok (call P (n + k + 1) "" "_law_walk" [.tup b, .tup head] g) fun v g' => NewL g ((rows (k + 1) head b).map rowD) v g' := by
  intro k
  induction k using Nat.strongRecOn with
  | ind k ih =>
  intro head b hl hs hk hh n g
  refine body_run (n := n + k) fn_lwalk rfl ?_
  generalize hF : (fun (i : Nat) (s : D) => (((head ++ [.int i], s) : Row) :: rowsI (fun j x => rows k (head ++ [.int i] ++ [.int j]) (dl x)) 0 (blocksOf s))) = F
  have hrows : rows (k + 1) head b = rowsI F 0 b := by rw [← hF]; rfl
  have hlen := rows_len k head b hl hs
  have h30 : 30 ^ (k + 1) ≤ 30 ^ 4 := Nat.pow_le_pow_right (by omega) (by omega)
  have hbig : ∀ i, i < b.length → (rowsI F 0 (b.take (i + 1))).length ≤ 810000 := fun i hi => by
    have := rowsI_take_len (f := F) b (i + 1)
    rw [hrows] at hlen
    omega
  have hr : rng1 (.int b.length) = some (b.length, .rng 0 1) := rng1_ok _ (by omega)
  simp [d__law_walk, exs, exe, ev, evs, evI, hr]
  refine Ok.mono (for_inv (fun i δ g' => ∃ f x3, δ = [some (.tup b), some (.tup head), some (.ref f), x3] ∧ Gr g g' ∧ g.length ≤ f ∧ g'[f]? = some (.lst ((rowsI F 0 (b.take i)).map rowD))) (fun _ _ => False) ?step ?stop _ _ _ _ (by simp) ⟨_, _, rfl, .app _ _, Nat.le_refl _, by simp [rowsI]⟩) ?fin
  case stop => exact fun δ g' _ => item_rng_end g'
  case fin =>
    intro z g' hz
    obtain ⟨e, f⟩ := z
    cases f with
    | rt d => exact hz.elim
    | nx =>
      obtain ⟨f, x3, rfl, h3, hf, h4⟩ := hz
      simp
      refine ⟨_, rfl, h3, hf, ?_⟩
      rw [hrows]
      simpa using h4
  case step =>
    rintro i _ g1 hi ⟨f, x3, rfl, h3, hf, h4⟩
    refine ⟨_, _, item_rng hi g1, rfl, ?_⟩
    have hbl : b[i] ∈ b := List.getElem_mem hi
    have l1 : (head ++ [D.int (i : Int)]).length ≤ line := by simp; omega
    have l0 := rowsI_take_len (f := F) b i
    rw [← hrows] at l0
    have l2 : ((rowsI F 0 (b.take i)).map rowD).length < line := by simp; omega
    generalize hA : (rowsI F 0 (b.take i)).map rowD ++ [D.tup [.tup (head ++ [.int i]), b[i]]] = acc
    have hX1 := app_ref h4 l2 (D.tup [.tup (head ++ [.int i]), b[i]])
    rw [hA] at hX1
    have hgi := fun g => getIx_nat hi g
    have h4' := get_set (o' := .lst acc) h4
    have hFi : F i b[i] = (head ++ [.int i], b[i]) :: rowsI (fun j x => rows k (head ++ [.int i] ++ [.int j]) (dl x)) 0 (blocksOf b[i]) := by rw [← hF]
    have hz1 := hbig i hi
    rw [rowsI_take hi, hFi] at hz1
    have fin : rowsI F 0 (b.take (i + 1)) = rowsI F 0 (b.take i) ++ F i b[i] := rowsI_take hi
    have hsi := hs _ hbl
    have hT1 : newT (head ++ [D.int (i : Int)]) g1 = .ok (.tup (head ++ [D.int (i : Int)])) g1 := newT_ok l1 _
    generalize hb : b[i] = s at hsi hX1 hA hgi hFi hz1
    have plain : ∀ (hne : ∀ t x y, s ≠ .tup [.str "if", t, x, y]), blocksOf s = [] := fun hne => by
      unfold blocksOf
      split
      · exact absurd rfl (hne _ _ _)
      · rfl
    cases hsi with
    | brk =>
      refine Ok.mono (Q := fun z g' => z = ([some (.tup b), some (.tup head), some (.ref f), some (.int i)], .nx) ∧ g' = g1.set f (.lst acc)) ?_ ?_
      · simp [kind_lst h4, hT1, hgi, hX1]
      · rintro _ _ ⟨rfl, rfl⟩
        refine ⟨_, _, rfl, h3.set hf _, hf, ?_⟩
        rw [get_set h4, fin, hb, hFi, ← hA]
        simp [blocksOf, rowsI, rowD]
    | set x v hv =>
      refine Ok.mono (Q := fun z g' => z = ([some (.tup b), some (.tup head), some (.ref f), some (.int i)], .nx) ∧ g' = g1.set f (.lst acc)) ?_ ?_
      · simp [kind_lst h4, hT1, hgi, hX1]
      · rintro _ _ ⟨rfl, rfl⟩
        refine ⟨_, _, rfl, h3.set hf _, hf, ?_⟩
        rw [get_set h4, fin, hb, hFi, ← hA]
        simp [blocksOf, rowsI, rowD]
    | if_ k' t ht x y lx ly hx hy =>
      have g1s := h3.set hf (.lst acc)
      have hh2 : (head ++ [D.int (i : Int), D.int 0]).length + 2 * k' ≤ 50 := by simp; omega
      have hh3 : (head ++ [D.int (i : Int), D.int 1]).length + 2 * k' ≤ 50 := by simp; omega
      obtain ⟨v, g2, e2, j2, rfl, a1, a2, a3⟩ := (ih k' (by omega) (head ++ [.int i, .int 0]) x lx hx (by omega) hh2 n (g1.set f (.lst acc))).to
      have c1 := a1.get h4'
      have hT2 : newT (head ++ [D.int (i : Int), D.int 0]) (g1.set f (.lst acc)) = .ok (.tup (head ++ [D.int (i : Int), D.int 0])) (g1.set f (.lst acc)) := newT_ok (by simp; omega) _
      have hz2 : acc.length + (rows (k' + 1) (head ++ [.int i, .int 0]) x).length + (rows (k' + 1) (head ++ [.int i, .int 1]) y).length ≤ 810000 := by
        rw [← hA]
        simp [blocksOf, rowsI, dl] at hz1 ⊢
        omega
      have hL2 : newL (acc ++ (rows (k' + 1) (head ++ [.int i, .int 0]) x).map rowD) g2 = .ok (.ref g2.length) (g2 ++ [.lst (acc ++ (rows (k' + 1) (head ++ [.int i, .int 0]) x).map rowD)]) := newL_ok (by simp; omega) _
      generalize hacc2 : acc ++ (rows (k' + 1) (head ++ [.int i, .int 0]) x).map rowD = acc2 at hL2
      have hA2 := add_ref c1 a3
      rw [hacc2] at hA2
      obtain ⟨v, g3, e3, j3, rfl, b1, b2, b3⟩ := (ih k' (by omega) (head ++ [.int i, .int 1]) y ly hy (by omega) hh3 n (g2 ++ [.lst acc2])).to
      have c2 := b1.get (get_new g2 (.lst acc2))
      have hT3 : newT (head ++ [D.int (i : Int), D.int 1]) (g2 ++ [.lst acc2]) = .ok (.tup (head ++ [D.int (i : Int), D.int 1])) (g2 ++ [.lst acc2]) := newT_ok (by simp; omega) _
      have hA3 := add_ref c2 b3
      have hL3 : newL (acc2 ++ (rows (k' + 1) (head ++ [.int i, .int 1]) y).map rowD) g3 = .ok (.ref g3.length) (g3 ++ [.lst (acc2 ++ (rows (k' + 1) (head ++ [.int i, .int 1]) y).map rowD)]) := newL_ok (by rw [← hacc2]; simp; omega) _
      rw [show n + k' + 1 = n + (k' + 1) from by omega] at e2 e3
      refine Ok.mono (Q := fun z g' => z = ([some (.tup b), some (.tup head), some (.ref g3.length), some (.int i)], .nx) ∧ g' = g3 ++ [.lst (acc2 ++ (rows (k' + 1) (head ++ [.int i, .int 1]) y).map rowD)]) ?_ ?_
      · simp [kind_lst h4, hT1, hgi, hX1, hT2, e2, hA2, hL2, hT3, e3, hA3, hL3]
      · rintro _ _ ⟨rfl, rfl⟩
        have gr := ((g1s.trans a1).trans (.app _ _)).trans b1
        refine ⟨_, _, rfl, gr.trans (.app _ _), gr.len, ?_⟩
        rw [get_new, fin, hb, hFi, ← hacc2, ← hA]
        simp [blocksOf, rowsI, rowD, dl]
end UkW
end
section
set_option Elab.async false
set_option linter.all false
set_option maxRecDepth 100000
set_option autoImplicit false
set_option maxHeartbeats 1000000
namespace UkW
open Uk
/-! ## Soundness of a statement -/
def intB (x : D) : Bool := match x with
  | .int _ => true
  | _ => false
def okN (x : D) : Bool := match x with
  | .int i => decide (0 ≤ i) && decide (i ≤ 3)
  | _ => false
def numsOf (s : D) : List D := match s with
  | .tup [.str "set", _, v] => nums v
  | .tup [.str "if", t, _, _] => nums t
  | _ => []
def soundB (path : List D) (s : D) : Bool := decide (path.length / 2 ≤ 2) && (numsOf s).all okN
theorem nums_dep : ∀ (k : Nat) (p : D), Part k p → ∀ x, x ∈ nums p → x.dep = 0 := by
  intro k
  induction k with
  | zero => intro p h; cases h
  | succ k ih =>
    intro p h x hx
    cases h with
    | «at» _ y hy =>
      have hx : x ∈ [y] := hx
      simp at hx
      rw [hx]
      exact hy
    | op _ hd hh ps hl hp =>
      rw [nums_op hh] at hx
      have key : ∀ qs : List D, (∀ q, q ∈ qs → Part k q) → x ∈ numss qs → x.dep = 0 := by
        intro qs
        induction qs with
        | nil => intro _ h; simp [numss] at h
        | cons q qs ihq =>
          intro h1 h2
          have h2 : x ∈ nums q ++ numss qs := h2
          rcases List.mem_append.mp h2 with h | h
          · exact ih q (h1 q List.mem_cons_self) x h
          · exact ihq (fun r hr => h1 r (List.mem_cons_of_mem _ hr)) h
      exact key ps hp hx
theorem fn_isint : P.fn "" "is_integer" = some d_is_integer := by rfl
theorem fn_sound : P.fn "" "is_sound" = some d_is_sound := by rfl
theorem isint_ok (n : Nat) (x : D) (hx : x.dep = 0) (g : G) : call P (n + 1) "" "is_integer" [x] g = .ok (.bl (intB x)) g := by
  have h : Ok (call P (n + 1) "" "is_integer" [x] g) fun v g' => v = .bl (intB x) ∧ g' = g := by
    refine body_run fn_isint rfl ?_
    have c1 : P.cls "int" = false := by rfl
    have c2 : P.cls "bool" = false := by rfl
    cases x with
    | ref a => unfold D.dep at hx; omega
    | fro a => unfold D.dep at hx; omega
    | _ => simp [d_is_integer, exs, exe, ev, evs, isInst, c1, c2, isType, intB]
  obtain ⟨v, g', e, rfl, rfl⟩ := h.to
  exact e
theorem sound_ok (n k : Nat) (path : List D) (s : D) (hs : St k s) (g : G) : Ok (call P (n + 6) "" "is_sound" [.tup path, s] g) fun v g' => v = .bl (soundB path s) ∧ Gr g g' := by
  refine body_run (n := n + 5) fn_sound rfl ?_
  have k1 : P.con "DEEPEST" = some (.int 2) := by rfl
  have k2 : P.con "MOST_WORTH" = some (.int 3) := by rfl
  have hfd : binop .fdiv (.int (path.length : Int)) (.int 2) g = .ok (.int ((path.length : Int) / 2)) g := fdiv_pos _ _ _ (by decide)
  have hlt : decide ((2 : Int) < (path.length : Int) / 2) = !decide (path.length / 2 ≤ 2) := by
    by_cases h : path.length / 2 ≤ 2
    · rw [decide_eq_true h, decide_eq_false (by omega)]
      rfl
    · rw [decide_eq_false h, decide_eq_true (by omega)]
      rfl
  by_cases hd : path.length / 2 ≤ 2
  · have hd' : decide ((2 : Int) < (path.length : Int) / 2) = false := by rw [hlt, decide_eq_true hd]; rfl
    -- the numbers' turn
    have main : ∀ (g1 : G) (j : Nat) (xs : List D), g1[j]? = some (.lst xs) → (∀ x, x ∈ xs → x.dep = 0) → xs.length ≤ line → Ok (exs ⟨P, call P (n + 5), call P (n + 5 - 1), none⟩ (.c (.ret (.bi .all (.c (.comp [3] (.and_ (.call "is_integer" (.c (.loc 3) .n)) (.chn (.cst (.int 0)) .le (.loc 3) .le (.glo "MOST_WORTH"))) (.one 3) (.seq (.loc 2)) (.cst (.bl true))) .n))) .n)
        [some (.tup path), some s, some (.ref j), none] g1) fun z g' => z.2 = .rt (.bl (xs.all okN)) ∧ Gr g1 g' := by
      intro g1 j xs hj hx hl
      simp [exs, exe, ev, evs, evI, walk_ref hj]
      refine Ok.mono (comp_fm (xs := xs) (fun x => some (.bl (okN x))) rfl (items_ref hj) hl fun x hxm g2 hg2 => ?_) fun _ g2 ⟨h1, h2⟩ => ?_
      · have e := isint_ok (n + 4) x (hx x hxm) g2
        have hd0 := hx x hxm
        cases x with
        | ref a => unfold D.dep at hd0; omega
        | fro a => unfold D.dep at hd0; omega
        | int q =>
          simp [bindT, Uk.wipe, e, intB, k2, okN]
          by_cases hq : 0 ≤ q
          · simp [hq]; exact .refl _
          · simp [hq]; exact .refl _
        | _ => simp [bindT, Uk.wipe, e, intB, okN]; exact .refl _
      · have e2 : xs.filterMap (fun x => some (D.bl (okN x))) = (xs.map okN).map D.bl := by
          rw [List.map_map, ← List.filterMap_eq_map]
          rfl
        rw [e2] at h2
        simp [all_ref h2]
        exact h1
    have fin : ∀ (p : D), Part 4 p → numsOf s = nums p → Ok (call P (n + 1 + 4) "" "numbers_in" [p] g) (fun v g' => ∃ j, v = .ref j ∧ Gr g g' ∧ g'[j]? = some (.lst (nums p)) ∧ (∀ x, x ∈ nums p → x.dep = 0) ∧ (nums p).length ≤ line) := fun p hp _ => (numbers_ok 4 p hp (by omega) (n + 1) g).mono fun v g' ⟨j, a, b, _, d⟩ => ⟨j, a, b, d, nums_dep 4 p hp, by
      have := nums_len 4 p hp
      simp
      omega⟩
    have body : d_is_sound.body = .c (.ife (.cmp .gt (.bin .fdiv (.bi .len (.c (.loc 0) .n)) (.cst (.int 2))) (.glo "DEEPEST")) (.c (.ret (.cst (.bl false))) .n) .n) (.c (.ife (.cmp .eq (.ix (.loc 1) (.cst (.int 0))) (.cst (.str "break"))) (.c (.ret (.cst (.bl true))) .n) .n)
      (.c (.asg 2 (.call "numbers_in" (.c (.ite (.cmp .eq (.ix (.loc 1) (.cst (.int 0))) (.cst (.str "set"))) (.ix (.loc 1) (.cst (.int 2))) (.ix (.loc 1) (.cst (.int 1)))) .n)))
      (.c (.ret (.bi .all (.c (.comp [3] (.and_ (.call "is_integer" (.c (.loc 3) .n)) (.chn (.cst (.int 0)) .le (.loc 3) .le (.glo "MOST_WORTH"))) (.one 3) (.seq (.loc 2)) (.cst (.bl true))) .n))) .n))) := rfl
    rw [body]
    generalize hT : (Ss.c (.ret (.bi .all (.c (.comp [3] (.and_ (.call "is_integer" (.c (.loc 3) .n)) (.chn (.cst (.int 0)) .le (.loc 3) .le (.glo "MOST_WORTH"))) (.one 3) (.seq (.loc 2)) (.cst (.bl true))) .n))) .n) = T at main
    cases hs with
    | brk =>
      simp [d_is_sound, exs, exe, ev, evs, k1, hfd, hd', soundB, hd, numsOf]
      exact .refl _
    | set _ x v hv =>
      obtain ⟨w, g1, e1, j, rfl, h1, h2, h3, h4⟩ := (fin v hv rfl).to
      simp [d_is_sound, exs, exe, ev, evs, k1, hfd, hd', e1]
      refine (main g1 j _ h2 h3 h4).mono fun z g' ⟨hz, hg⟩ => ?_
      rw [hz]
      exact ⟨by simp [soundB, hd, numsOf], h1.trans hg⟩
    | if_ k' t ht x y lx ly hx hy =>
      obtain ⟨w, g1, e1, j, rfl, h1, h2, h3, h4⟩ := (fin t ht rfl).to
      simp [d_is_sound, exs, exe, ev, evs, k1, hfd, hd', e1]
      refine (main g1 j _ h2 h3 h4).mono fun z g' ⟨hz, hg⟩ => ?_
      rw [hz]
      exact ⟨by simp [soundB, hd, numsOf], h1.trans hg⟩
  · have hd' : decide ((2 : Int) < (path.length : Int) / 2) = true := by rw [hlt, decide_eq_false hd]; rfl
    simp [d_is_sound, exs, exe, ev, evs, k1, hfd, hd', soundB, hd]
    exact .refl _
end UkW
end
section
set_option Elab.async false
set_option linter.all false
set_option maxRecDepth 100000
set_option autoImplicit false
set_option maxHeartbeats 1000000
namespace UkW
open Uk
theorem body_res {fd : FDef} {k f : String} (hf : P.fn k f = some fd) {n : Nat} {args : List D} {g : G} {Q : D → G → Prop} {X : Exn → G → Prop} (hl : args.length = fd.ps.length) (h : Res (exs ⟨P, call P n, call P (n - 1), none⟩ fd.body (args.map some ++ List.replicate (fd.N.length - args.length) none) g) (fun z g => match z.2 with
    | .nx => Q .non g
    | .rt d => Q d g) X) : Res (call P (n + 1) k f args g) Q X := by
  rw [call_fn hf]
  exact runF_res hl h
/-- the first row at fault: its path -/
def faultOf (rs : List Row) : Option (List D) := if 8 < rs.length then some [] else (rs.find? fun r => !soundB r.1 r.2).map (·.1)
/-- a whole block -/
structure Blk (b : List D) : Prop where
  len : b.length ≤ 13
  st : ∀ s, s ∈ b → St 3 s
abbrev rws (b : List D) : List Row := rows 4 [] b
/-- a loop that was taken stands at a -/
def LoopAt (g : G) (a : Nat) (b : List D) : Prop := ∃ j, g[a]? = some (.ins "Loop" [("own_block", .tup b), ("rows", .ref j)]) ∧ g[j]? = some (.lst ((rws b).map rowD))
theorem LoopAt.mono {g g' : G} {a : Nat} {b : List D} (h : LoopAt g a b) (k : ∀ (j : Nat) (o : O), g[j]? = some o → g'[j]? = some o) : LoopAt g' a b := let ⟨j, h1, h2⟩ := h; ⟨j, k _ _ h1, k _ _ h2⟩
theorem fn_init : P.fn "Loop" "__init__" = some d_LoopU_initU := by rfl
theorem mem_rowsI {f : Nat → D → List Row} {r : Row} : ∀ {b : List D} {i : Nat}, r ∈ rowsI f i b → ∃ (j : Nat) (h : j < b.length), r ∈ f (i + j) b[j]
  | [], i, h => by simp [rowsI] at h
  | s :: b, i, h => by
    have h : r ∈ f i s ++ rowsI f (i + 1) b := h
    rcases List.mem_append.mp h with h | h
    · exact ⟨0, by simp, h⟩
    · obtain ⟨j, hj, hr⟩ := mem_rowsI h
      exact ⟨j + 1, by simp; omega, by
        rw [show i + (j + 1) = i + 1 + j from by omega]
        exact hr⟩
theorem row_st {k : Nat} : ∀ (head b : List D), (∀ s, s ∈ b → St k s) → ∀ r, r ∈ rows (k + 1) head b → St k r.2 := by
  induction k with
  | zero =>
    intro head b hs r hr
    obtain ⟨j, hj, h⟩ := mem_rowsI hr
    have hsj := hs _ (List.getElem_mem hj)
    rcases hsj.blocks with h0 | ⟨_, _, _, h0, _⟩
    · rw [h0] at h
      simp [rowsI] at h
      rw [h]
      exact hsj
    · cases h0
  | succ k ih =>
    intro head b hs r hr
    obtain ⟨j, hj, h⟩ := mem_rowsI hr
    have hsj := hs _ (List.getElem_mem hj)
    rcases List.mem_cons.mp h with h | h
    · rw [h]
      exact hsj
    · obtain ⟨j2, hj2, h2⟩ := mem_rowsI h
      rcases hsj.blocks with h0 | ⟨k', x, y, h0, hbl, _, _, hx, hy⟩
      · rw [h0] at hj2
        simp at hj2
      · cases h0
        generalize hz : (blocksOf b[j])[j2] = z at h2
        have hm : z ∈ blocksOf b[j] := hz ▸ List.getElem_mem hj2
        rw [hbl] at hm
        simp at hm
        refine (ih _ _ ?_ r h2).up
        rcases hm with hm | hm <;> rw [hm]
        · exact hx
        · exact hy
theorem init_ok (n : Nat) (b : List D) (hb : Blk b) (g0 g : G) (hg : Gr g0 g) (a : Nat) (ha : g[a]? = some (.ins "Loop" [])) (ha0 : g0.length ≤ a) : Res (call P (n + 8) "Loop" "__init__" [.ref a, .tup b] g) (fun v g' => v = .non ∧ Gr g0 g' ∧ faultOf (rws b) = none ∧ LoopAt g' a b) fun x g' => Gr g0 g' ∧ ∃ p, faultOf (rws b) = some p ∧ x = ⟨"InvalidLoop", [("path", .tup p)]⟩ := by
  refine body_res (n := n + 7) fn_init rfl ?_
  have c0 : P.cls "Loop" = true := by rfl
  have c1 : P.fld "Loop" "own_block" = true := by rfl
  have c2 : P.fld "Loop" "rows" = true := by rfl
  have c3 : P.prop "Loop" "rows" = false := by rfl
  have c4 : P.con "MOST_STATEMENTS" = some (.int 8) := by rfl
  have c5 : P.exn "InvalidLoop" = some (some "path") := by rfl
  have s1 := fld_ref ha c0 c1 (by simp) (.tup b)
  have g1 := get_set (o' := .ins "Loop" (putF "own_block" (.tup b) [])) ha
  obtain ⟨v, g2, e2, j, rfl, h1, h2, h3⟩ := (walked_ok 3 [] b hb.len hb.st (by omega) (by simp) (n + 2) (g.set a (.ins "Loop" (putF "own_block" (.tup b) [])))).to
  have g2a := h1.get g1
  have hja : j ≠ a := fun z => by
    subst z
    have := get_lt ha
    simp at h2
    omega
  have s2 := fld_ref g2a c0 c2 (by simp [putF]) (.ref j)
  have g3 := get_set (o' := .ins "Loop" (putF "rows" (.ref j) (putF "own_block" (.tup b) []))) g2a
  have g3j : (g2.set a (.ins "Loop" (putF "rows" (.ref j) (putF "own_block" (.tup b) []))))[j]? = some (.lst ((rws b).map rowD)) := set_ne h3 hja
  have hp : putF "rows" (.ref j) (putF "own_block" (.tup b) []) = [("own_block", .tup b), ("rows", .ref j)] := by simp [putF]
  rw [hp] at s2 g3 g3j
  have gr : Gr g0 (g2.set a (.ins "Loop" [("own_block", .tup b), ("rows", .ref j)])) := ((hg.set ha0 _).trans h1).set ha0 _
  generalize g2.set a (.ins "Loop" [("own_block", .tup b), ("rows", .ref j)]) = G3 at s2 g3 g3j gr
  have at1 : ∀ f1 f2 cu, attr ⟨P, f1, f2, cu⟩ (.ref a) "rows" G3 = .ok (.ref j) G3 := fun f1 f2 cu => att_ref (c := ⟨P, f1, f2, cu⟩) (f := "rows") g3 c0 c3 c2 (v := .ref j) (by simp [lookF])
  rw [show n + 2 + 3 + 2 = n + 7 from rfl] at e2
  have hlen : (((rws b).map rowD).length : Int) = ((rws b).length : Int) := by simp
  by_cases hbig : 8 < (rws b).length
  · have hb8 : (8 : Int) < ((rws b).length : Int) := by omega
    simp [d_LoopU_initU, exs, exe, ev, evs, s1, e2, s2, at1, len_ref g3j, c4, hb8, c5]
    exact ⟨gr, by simp [faultOf, hbig]⟩
  · have hb8 : ¬ (8 : Int) < ((rws b).length : Int) := by omega
    simp [d_LoopU_initU, exs, exe, ev, evs, s1, e2, s2, at1, len_ref g3j, c4, hb8, evI, walk_ref g3j]
    refine Res.mono (for_res (fun i δ g' => (∃ x2 x3, δ = [some (.ref a), some (.tup b), x2, x3]) ∧ Gr G3 g' ∧ ∀ r, r ∈ (rws b).take i → soundB r.1 r.2 = true) (fun _ _ => False) (fun x g' => Gr g0 g' ∧ ∃ p, faultOf (rws b) = some p ∧ x = ⟨"InvalidLoop", [("path", .tup p)]⟩) ?step ?stop (rws b).length 0 _ _ (by simp) ⟨⟨_, _, rfl⟩, .refl _, by simp⟩) ?fin ?finx
    case stop =>
      rintro δ g' ⟨_, h, _⟩
      have := item_seq_end (n := (rws b).length) (h.get g3j)
      simpa using this
    case finx => exact fun x g' h => h
    case fin =>
      intro z g' hz
      obtain ⟨e, f⟩ := z
      cases f with
      | rt d => exact hz.elim
      | nx =>
        obtain ⟨⟨x2, x3, rfl⟩, h3, h4⟩ := hz
        simp
        refine ⟨gr.trans h3, ?_, j, h3.get g3, h3.get g3j⟩
        unfold faultOf
        rw [if_neg hbig, Option.map_eq_none_iff, List.find?_eq_none]
        intro r hr
        have := h4 r (by simpa using hr)
        simp [this]
    case step =>
      rintro i _ g' hi ⟨⟨x2, x3, rfl⟩, q1, q2⟩
      have hi' : i < ((rws b).map rowD).length := by simpa using hi
      have hr : (rws b)[i] ∈ rws b := List.getElem_mem hi
      refine ⟨_, [some (.ref a), some (.tup b), some (.tup (rws b)[i].1), some (rws b)[i].2], item_seq (q1.get g3j) hi', ?_, ?_⟩
      · rw [List.getElem_map]
        rfl
      · obtain ⟨v, g4, e4, rfl, q3⟩ := (sound_ok (n + 1) 3 (rws b)[i].1 (rws b)[i].2 (row_st [] b hb.st _ hr) g').to
        rw [show n + 1 + 6 = n + 7 from rfl] at e4
        cases hs : soundB (rws b)[i].1 (rws b)[i].2 with
        | true =>
          rw [hs] at e4
          refine Res.mono (Q := fun z g' => z = ([some (.ref a), some (.tup b), some (.tup (rws b)[i].1), some (rws b)[i].2], .nx) ∧ g' = g4) (X := fun _ _ => False) (by simp [e4]) ?_ (fun _ _ h => h.elim)
          rintro _ _ ⟨rfl, rfl⟩
          refine ⟨⟨_, _, rfl⟩, q1.trans q3, fun r hr2 => ?_⟩
          rw [take_next hi] at hr2
          rcases List.mem_append.mp hr2 with h | h
          · exact q2 r h
          · rw [List.mem_singleton.mp h]
            exact hs
        | false =>
          rw [hs] at e4
          simp [e4, c5]
          refine ⟨gr.trans (q1.trans q3), ?_⟩
          unfold faultOf
          rw [if_neg hbig, find_first hi (fun r hr => by simp [q2 r hr]) (by simp [hs])]
          rfl
end UkW
end
section
set_option Elab.async false
set_option linter.all false
set_option maxRecDepth 100000
set_option autoImplicit false
set_option maxHeartbeats 1000000
namespace UkW
open Uk
open Mac (Wo Th Ot Nm Bs Pv Vl Wd Ts Sm Bk)
/-! ## Loops as the program has them -/
def woD : Wo → D
  | .num i => .int i
  | .odd => .str "odd"
def thD (t : Th) : D := .tup [woD t.1, .int t.2]
def otD : Ot → D
  | none => .non
  | some t => thD t
def nmS : Nm → String
  | .a => "a"
  | .b => "b"
def bsD : Bs → D
  | .item => .tup [.str "item"]
  | .nm x => .tup [.str (nmS x)]
def pvD : Pv → D
  | .bs x => bsD x
  | .none => .tup [.str "none"]
  | .at k => .tup [.str "at", .int k]
def vlD : Vl → D
  | .pv v => pvD v
  | .copy x => .tup [.str "copy", bsD x]
def wdS : Wd → String
  | .same => "same"
  | .alike => "like"
  | .in_ => "in"
  | .below => "less"
def t0D (w : Wd) (x y : Pv) : D := .tup [.str (wdS w), pvD x, pvD y]
def tsD (t : Ts) : D := if t.neg then .tup [.str "not", t0D t.w t.x t.y] else t0D t.w t.x t.y
mutual
def smD : Sm → D
  | .brk => .tup [.str "break"]
  | .set x v => .tup [.str "set", .str (nmS x), vlD v]
  | .ifs t y n => .tup [.str "if", tsD t, .tup (bkD y), .tup (bkD n)]
def bkD : Bk → List D
  | .nil => []
  | .cons s b => smD s :: bkD b
end
def bkLen : Bk → Nat
  | .nil => 0
  | .cons _ b => bkLen b + 1
theorem bkD_len : ∀ b : Bk, (bkD b).length = bkLen b
  | .nil => rfl
  | .cons s b => by simp [bkD, bkLen, bkD_len b]
/-! ### what is well made -/
def pvOk : Pv → Prop
  | .at k => 0 ≤ k ∧ k ≤ 3
  | _ => True
def vlOk : Vl → Prop
  | .pv v => pvOk v
  | .copy _ => True
def tsOk (t : Ts) : Prop := pvOk t.x ∧ pvOk t.y
mutual
/-- written numbers from 0 to 3, at most k ifs within one another -/
def smOk : Nat → Sm → Prop
  | _, .brk => True
  | _, .set _ v => vlOk v
  | k, .ifs t y n => tsOk t ∧ ∃ j, k = j + 1 ∧ bkLen y ≤ 13 ∧ bkLen n ≤ 13 ∧ bkOk j y ∧ bkOk j n
def bkOk : Nat → Bk → Prop
  | _, .nil => True
  | k, .cons s b => smOk k s ∧ bkOk k b
end
mutual
theorem smOk_up : ∀ {k : Nat} (s : Sm), smOk k s → smOk (k + 1) s
  | _, .brk, _ => by unfold smOk; trivial
  | _, .set _ v, h => by unfold smOk at h ⊢; exact h
  | k, .ifs t y n, h => by
    unfold smOk at h ⊢
    obtain ⟨h1, j, rfl, h2, h3, h4, h5⟩ := h
    exact ⟨h1, j + 1, rfl, h2, h3, bkOk_up y h4, bkOk_up n h5⟩
theorem bkOk_up : ∀ {k : Nat} (b : Bk), bkOk k b → bkOk (k + 1) b
  | _, .nil, _ => by unfold bkOk; trivial
  | _, .cons s b, h => by
    unfold bkOk at h ⊢
    exact ⟨smOk_up s h.1, bkOk_up b h.2⟩
end
theorem part_bs (k : Nat) (x : Bs) : Part (k + 1) (bsD x) := by
  cases x with
  | item => exact .op _ "item" (by decide) [] (by simp) (by simp)
  | nm x => cases x <;> exact .op _ _ (by decide) [] (by simp) (by simp)
theorem part_pv (k : Nat) (x : Pv) : Part (k + 1) (pvD x) := by
  cases x with
  | bs x => exact part_bs k x
  | none => exact .op _ "none" (by decide) [] (by simp) (by simp)
  | «at» i => exact .at _ _ rfl
theorem part_vl (k : Nat) (x : Vl) : Part (k + 2) (vlD x) := by
  cases x with
  | pv v => exact part_pv _ v
  | copy x => exact .op _ "copy" (by decide) [bsD x] (by simp) (by simpa using part_bs k x)
theorem part_t0 (k : Nat) (w : Wd) (x y : Pv) : Part (k + 2) (t0D w x y) := by
  refine .op _ (wdS w) (by cases w <;> decide) [pvD x, pvD y] (by simp) ?_
  intro p hp
  simp at hp
  rcases hp with rfl | rfl
  · exact part_pv k x
  · exact part_pv k y
theorem part_ts (k : Nat) (t : Ts) : Part (k + 3) (tsD t) := by
  unfold tsD
  split
  · exact .op _ "not" (by decide) [_] (by simp) (by simpa using part_t0 k t.w t.x t.y)
  · exact part_t0 (k + 1) t.w t.x t.y
mutual
theorem st_sm : ∀ {k : Nat} (s : Sm), smOk k s → St k (smD s)
  | k, .brk, _ => .brk k
  | k, .set x v, _ => .set k (nmS x) (vlD v) (part_vl 2 v)
  | k, .ifs t y n, h => by
    unfold smOk at h
    obtain ⟨h1, j, rfl, h2, h3, h4, h5⟩ := h
    exact .if_ j (tsD t) (part_ts 1 t) (bkD y) (bkD n) (by rw [bkD_len]; exact h2) (by rw [bkD_len]; exact h3) (st_bk y h4) (st_bk n h5)
theorem st_bk : ∀ {k : Nat} (b : Bk), bkOk k b → ∀ s, s ∈ bkD b → St k s
  | k, .nil, _, s, hs => by simp [bkD] at hs
  | k, .cons t b, h, s, hs => by
    unfold bkOk at h
    simp [bkD] at hs
    rcases hs with rfl | hs
    · exact st_sm t h.1
    · exact st_bk b h.2 s hs
end
/-! ### rows -/
abbrev RowT : Type := List Int × Sm
mutual
def rowsS : List Int → Sm → List RowT
  | _, .brk => []
  | _, .set _ _ => []
  | p, .ifs _ y n => rowsT (p ++ [0]) 0 y ++ rowsT (p ++ [1]) 0 n
/-- the statements of a block with their paths, in reading order -/
def rowsT : List Int → Int → Bk → List RowT
  | _, _, .nil => []
  | h, i, .cons s b => (h ++ [i], s) :: rowsS (h ++ [i]) s ++ rowsT h (i + 1) b
end
def rowTD (r : RowT) : Row := (r.1.map D.int, smD r.2)
theorem rows_zero (head b : List D) : rows 0 head b = [] := rfl
theorem map_snoc (h : List Int) (i : Int) : (h ++ [i]).map D.int = h.map D.int ++ [D.int i] := by simp
mutual
theorem rowsS_eq : ∀ {k : Nat} (s : Sm) (p : List Int), smOk k s → rowsI (fun j x => rows (k) (p.map D.int ++ [.int (j : Nat)]) (dl x)) 0 (blocksOf (smD s)) = (rowsS p s).map rowTD
  | k, .brk, p, h => rfl
  | k, .set _ _, p, h => rfl
  | k, .ifs t y n, p, h => by
    unfold smOk at h
    obtain ⟨h1, j, rfl, h2, h3, h4, h5⟩ := h
    have e1 := rowsT_eq y (p ++ [0]) 0 h4
    have e2 := rowsT_eq n (p ++ [1]) 0 h5
    rw [map_snoc] at e1 e2
    have e1 : rows (j + 1) (p.map D.int ++ [.int (0 : Nat)]) (bkD y) = (rowsT (p ++ [0]) 0 y).map rowTD := e1
    have e2 : rows (j + 1) (p.map D.int ++ [.int ((0 + 1 : Nat))]) (bkD n) = (rowsT (p ++ [1]) 0 n).map rowTD := e2
    show rows (j + 1) (p.map D.int ++ [.int (0 : Nat)]) (bkD y) ++ (rows (j + 1) (p.map D.int ++ [.int ((0 + 1 : Nat))]) (bkD n) ++ []) = (rowsT (p ++ [0]) 0 y ++ rowsT (p ++ [1]) 0 n).map rowTD
    rw [List.append_nil, List.map_append, e1, e2]
theorem rowsT_eq : ∀ {k : Nat} (b : Bk) (h : List Int) (i : Nat), bkOk k b → rowsI (fun i s => (h.map D.int ++ [.int (i : Nat)], s) :: rowsI (fun j x => rows k (h.map D.int ++ [.int (i : Nat)] ++ [.int (j : Nat)]) (dl x)) 0 (blocksOf s)) i (bkD b) = (rowsT h i b).map rowTD
  | k, .nil, h, i, _ => rfl
  | k, .cons s b, h, i, q => by
    unfold bkOk at q
    have e1 := rowsS_eq s (h ++ [(i : Int)]) q.1
    have e2 := rowsT_eq b h (i + 1) q.2
    rw [map_snoc] at e1
    show ((h.map D.int ++ [.int (i : Nat)], smD s) :: rowsI _ 0 (blocksOf (smD s))) ++ rowsI _ (i + 1) (bkD b) = ((h ++ [(i : Int)], s) :: rowsS (h ++ [(i : Int)]) s ++ rowsT h ((i : Int) + 1) b).map rowTD
    rw [e1, e2, List.map_append, List.map_cons]
    have : ((i + 1 : Nat) : Int) = (i : Int) + 1 := by omega
    rw [this]
    unfold rowTD
    rw [map_snoc]
end
theorem rows_T {k : Nat} (b : Bk) (h : List Int) (q : bkOk k b) : rows (k + 1) (h.map D.int) (bkD b) = (rowsT h 0 b).map rowTD := rowsT_eq b h 0 q
/-! ### sound rows -/
theorem nums_bs (x : Bs) : nums (bsD x) = [] := by
  cases x with
  | item => rfl
  | nm x => cases x <;> rfl
theorem nums_pv {x : Pv} (h : pvOk x) : (nums (pvD x)).all okN = true := by
  cases x with
  | bs x => show (nums (bsD x)).all okN = true; rw [nums_bs]; rfl
  | none => rfl
  | «at» k =>
    show (okN (.int k) && true) = true
    simp [okN, h.1, h.2]
theorem nums_vl {x : Vl} (h : vlOk x) : (nums (vlD x)).all okN = true := by
  cases x with
  | pv v => exact nums_pv h
  | copy x =>
    show (numss [bsD x]).all okN = true
    rw [numss_one, nums_bs]
    rfl
theorem nums_t0 {w : Wd} {x y : Pv} (hx : pvOk x) (hy : pvOk y) : (nums (t0D w x y)).all okN = true := by
  have e : nums (t0D w x y) = nums (pvD x) ++ nums (pvD y) := by
    unfold t0D
    rw [nums_op (by cases w <;> decide)]
    simp [numss]
  rw [e, List.all_append, nums_pv hx, nums_pv hy]
  rfl
theorem nums_ts {t : Ts} (h : tsOk t) : (nums (tsD t)).all okN = true := by
  unfold tsD
  split
  · rw [nums_op (by decide), numss_one]
    exact nums_t0 h.1 h.2
  · exact nums_t0 h.1 h.2
theorem nums_sm {k : Nat} {s : Sm} (h : smOk k s) : (numsOf (smD s)).all okN = true := by
  cases s with
  | brk => rfl
  | set x v => unfold smOk at h; exact nums_vl h
  | ifs t y n => unfold smOk at h; exact nums_ts h.1
mutual
theorem rowsS_ok : ∀ {k : Nat} (s : Sm) (p : List Int), smOk k s → ∀ r ∈ rowsS p s, (∃ j, smOk j r.2) ∧ r.1.length ≤ p.length + 2 * k
  | k, .brk, p, h, r, hr => by simp [rowsS] at hr
  | k, .set _ _, p, h, r, hr => by simp [rowsS] at hr
  | k, .ifs t y n, p, h, r, hr => by
    unfold smOk at h
    obtain ⟨h1, j, rfl, h2, h3, h4, h5⟩ := h
    simp only [rowsS, List.mem_append] at hr
    rcases hr with hr | hr
    · have := rowsT_ok y (p ++ [0]) 0 h4 r hr
      refine ⟨this.1, ?_⟩
      have h6 := this.2
      simp at h6
      omega
    · have := rowsT_ok n (p ++ [1]) 0 h5 r hr
      refine ⟨this.1, ?_⟩
      have h6 := this.2
      simp at h6
      omega
theorem rowsT_ok : ∀ {k : Nat} (b : Bk) (h : List Int) (i : Int), bkOk k b → ∀ r ∈ rowsT h i b, (∃ j, smOk j r.2) ∧ r.1.length ≤ h.length + 1 + 2 * k
  | k, .nil, h, i, _, r, hr => by simp [rowsT] at hr
  | k, .cons s b, h, i, q, r, hr => by
    unfold bkOk at q
    simp only [rowsT, List.cons_append, List.mem_cons, List.mem_append] at hr
    rcases hr with rfl | hr | hr
    · exact ⟨⟨k, q.1⟩, by simp⟩
    · have := rowsS_ok s _ q.1 r hr
      refine ⟨this.1, ?_⟩
      have h6 := this.2
      simp at h6
      omega
    · have := rowsT_ok b h (i + 1) q.2 r hr
      exact this
end
/-- a loop that is none of those refused -/
structure Good (b : Bk) : Prop where
  ok : bkOk 2 b
  few : (rowsT [] 0 b).length ≤ 8
mutual
theorem size_rows : ∀ (b : Bk) (h : List Int) (i : Int), bkLen b ≤ (rowsT h i b).length
  | .nil, h, i => by simp [bkLen]
  | .cons s b, h, i => by
    have := size_rows b h (i + 1)
    simp [bkLen, rowsT]
    omega
end
theorem Good.len {b : Bk} (h : Good b) : bkLen b ≤ 8 := Nat.le_trans (size_rows b [] 0) h.few
theorem rws_T {k : Nat} (hk : k ≤ 3) {b : Bk} (h : bkOk k b) : rws (bkD b) = (rowsT [] 0 b).map rowTD := by
  have h3 : bkOk 3 b := by
    match k, hk with
    | 0, _ => exact bkOk_up b (bkOk_up b (bkOk_up b h))
    | 1, _ => exact bkOk_up b (bkOk_up b h)
    | 2, _ => exact bkOk_up b h
    | 3, _ => exact h
  exact rows_T b [] h3
theorem Good.blk {b : Bk} (h : Good b) : Blk (bkD b) := ⟨by rw [bkD_len]; have := h.len; omega, st_bk b (bkOk_up b h.ok)⟩
theorem Good.fault {b : Bk} (h : Good b) : faultOf (rws (bkD b)) = none := by
  rw [rws_T (k := 2) (by omega) h.ok]
  unfold faultOf
  rw [if_neg (by simpa using h.few), Option.map_eq_none_iff, List.find?_eq_none]
  intro r hr
  obtain ⟨q, hq, rfl⟩ := List.mem_map.mp hr
  obtain ⟨⟨j, h1⟩, h2⟩ := rowsT_ok b [] 0 h.ok q hq
  have h3 : soundB (rowTD q).1 (rowTD q).2 = true := by
    unfold soundB
    have e : (numsOf (rowTD q).2).all okN = true := nums_sm h1
    rw [e]
    simp [rowTD]
    simp at h2
    omega
  simp [h3]
/-- a loop that was taken stands at a -/
def LoopT (g : G) (a : Nat) (b : Bk) : Prop := LoopAt g a (bkD b)
theorem mk_good (n : Nat) (f1 : String → String → List D → G → R D) (cu : Option Exn) {b : Bk} (hb : Good b) (g : G) : Ok (make ⟨P, f1, call P (n + 8), cu⟩ "Loop" [.tup (bkD b)] g) fun v g' => v = .ref g.length ∧ Gr g g' ∧ LoopT g' g.length b := by
  have c0 : P.cls "Loop" = true := by rfl
  have h := init_ok n (bkD b) hb.blk g (g ++ [.ins "Loop" []]) (.app _ _) g.length (get_new _ _) (Nat.le_refl _)
  unfold make
  rw [if_pos c0]
  cases hm : call P (n + 8) "Loop" "__init__" [.ref g.length, .tup (bkD b)] (g ++ [.ins "Loop" []]) with
  | bad => rw [hm] at h; exact h.elim
  | exc x g' =>
    rw [hm] at h
    obtain ⟨_, p, h2, _⟩ := h
    rw [hb.fault] at h2
    cases h2
  | ok v g' =>
    rw [hm] at h
    obtain ⟨rfl, h2, _, h3⟩ := h
    show Ok ((call P (n + 8) "Loop" "__init__" [.ref g.length, .tup (bkD b)] (g ++ [.ins "Loop" []])).bind _) _
    rw [hm]
    exact ⟨rfl, h2, h3⟩
end UkW
end
section
set_option Elab.async false
set_option linter.all false
set_option maxRecDepth 100000
set_option autoImplicit false
set_option maxHeartbeats 1000000
namespace UkW
open Uk
open Mac (Wo Th Ot Nm Bs Pv Vl Wd Ts Sm Bk)
/-! ## Blocks as lists of statements -/
def toL : Bk → List Sm
  | .nil => []
  | .cons s b => s :: toL b
def ofL : List Sm → Bk
  | [] => .nil
  | s :: l => .cons s (ofL l)
theorem toL_ofL : ∀ l : List Sm, toL (ofL l) = l
  | [] => rfl
  | s :: l => by simp [ofL, toL, toL_ofL l]
theorem ofL_toL : ∀ b : Bk, ofL (toL b) = b
  | .nil => rfl
  | .cons s b => by simp [ofL, toL, ofL_toL b]
theorem bkD_L : ∀ b : Bk, bkD b = (toL b).map smD
  | .nil => rfl
  | .cons s b => by simp [bkD, toL, bkD_L b]
theorem bkD_ofL (l : List Sm) : bkD (ofL l) = l.map smD := by rw [bkD_L, toL_ofL]
theorem bkLen_L : ∀ b : Bk, bkLen b = (toL b).length
  | .nil => rfl
  | .cons s b => by simp [bkLen, toL, bkLen_L b]
theorem bkOk_L {k : Nat} : ∀ b : Bk, bkOk k b ↔ ∀ s ∈ toL b, smOk k s
  | .nil => by simp [bkOk, toL]
  | .cons s b => by simp [bkOk, toL, bkOk_L b]
theorem bkOk_of {k : Nat} {l : List Sm} (h : ∀ s ∈ l, smOk k s) : bkOk k (ofL l) := (bkOk_L _).mpr (by rw [toL_ofL]; exact h)
theorem rowsT_app : ∀ (l m : List Sm) (h : List Int) (i : Int), rowsT h i (ofL (l ++ m)) = rowsT h i (ofL l) ++ rowsT h (i + l.length) (ofL m)
  | [], m, h, i => by simp [ofL, rowsT]
  | s :: l, m, h, i => by
    have e : i + 1 + (l.length : Int) = i + ((s :: l).length : Int) := by simp; omega
    show ((h ++ [i], s) :: rowsS (h ++ [i]) s ++ rowsT h (i + 1) (ofL (l ++ m))) = ((h ++ [i], s) :: rowsS (h ++ [i]) s ++ rowsT h (i + 1) (ofL l)) ++ _
    rw [rowsT_app l m h (i + 1), e]
    simp
/-- data that stand for statements are a block's -/
theorem bk_of {k : Nat} : ∀ {l : List D}, (∀ x ∈ l, ∃ s, x = smD s ∧ smOk k s) → ∃ b, l = bkD b ∧ bkOk k b
  | [], _ => ⟨.nil, rfl, by unfold bkOk; trivial⟩
  | x :: l, h => by
    obtain ⟨s, rfl, hs⟩ := h x List.mem_cons_self
    obtain ⟨b, rfl, hb⟩ := bk_of fun y hy => h y (List.mem_cons_of_mem _ hy)
    exact ⟨.cons s b, rfl, by unfold bkOk; exact ⟨hs, hb⟩⟩
/-! ## What is drawn -/
theorem Rd.gr {i : Nat} {a b : G} (h : Rd a i) (k : Gr a b) : Rd b i := let ⟨l, e, d⟩ := h; ⟨l, k.get e, d⟩
theorem Fr.set {i p : Nat} {g0 g : G} (h : Fr i g0 g) (hp : g0.length ≤ p) (hi : p ≠ i) (o : O) : Fr i g0 (g.set p o) := by
  refine ⟨by simpa using h.1, fun j o' hj ej => ?_, ?_⟩
  · have hlt := get_lt ej
    exact set_ne (h.2.1 j o' hj ej) (by omega)
  · obtain ⟨l, e, d⟩ := h.2.2
    exact ⟨l, set_ne e (Ne.symm hi), d⟩
theorem Fr.st {i : Nat} {a b : G} (h : Fr i a b) : Rd b i := h.2.2
theorem fn_val : P.fn "" "_law_val" = some d__law_val := by rfl
theorem fn_test : P.fn "" "_law_test" = some d__law_test := by rfl
theorem fn_lstatement : P.fn "" "_law_statement" = some d__law_statement := by rfl
theorem fn_lblock : P.fn "" "_law_block" = some d__law_block := by rfl
/-- a new list, then a pick from it -/
theorem pick_new (n : Nat) (g : G) (i : Nat) (xs : List D) (hx : 0 < xs.length) (hx2 : xs.length < 1000) (h : Rd g i) : Ok (call P (n + 2) "" "_law_pick" [.ref i, .ref g.length] (g ++ [.lst xs])) (fun v g' => Fr i g g' ∧ v ∈ xs) := by
  have hb : xs.length < 1073741824 := Nat.lt_trans hx2 (by decide)
  have hne : g.length ≠ i := Nat.ne_of_gt (Fr.lt h)
  have hr : Rd (g ++ [.lst xs]) i := h.gr (.app g [.lst xs])
  have hp := pick n (g ++ [.lst xs]) i g.length xs hx hb hr (get_new g (.lst xs)) hne
  exact hp.mono fun v g' q => ⟨(Fr.gr h (.app g [.lst xs])).trans q.1, q.2.2⟩
def PvR (v : D) : Prop := ∃ p, v = pvD p ∧ pvOk p
theorem val_ok (n : Nat) (g : G) (i : Nat) (h : Rd g i) : Ok (call P (n + 3) "" "_law_val" [.ref i] g) fun v g' => Fr i g g' ∧ PvR v := by
  refine body_run (n := n + 2) fn_val rfl ?_
  generalize hcs : ([.tup [.str "item"], .tup [.str "item"], .tup [.str "a"], .tup [.str "a"], .tup [.str "b"], .tup [.str "none"], .tup [.str "at", .int 1]] : List D) = cs
  have hl7 : cs.length = 7 := by rw [← hcs]; rfl
  have hp : ∀ x, x ∈ cs → PvR x := by
    rw [← hcs]
    intro x hx
    simp at hx
    rcases hx with rfl | rfl | rfl | rfl | rfl
    · exact ⟨.bs .item, rfl, trivial⟩
    · exact ⟨.bs (.nm .a), rfl, trivial⟩
    · exact ⟨.bs (.nm .b), rfl, trivial⟩
    · exact ⟨.none, rfl, trivial⟩
    · exact ⟨.at 1, rfl, by decide, by decide⟩
  obtain ⟨v, g1, e1, f1, l1, t, rfl, h0, h1⟩ := (draw (n + 1) (g ++ [.lst cs]) i 4 (by omega) (by omega) (h.gr (.app _ _))).to
  have f0 : Fr i g (g ++ [.lst cs]) := Fr.gr h (.app _ _)
  have hne : g.length ≠ i := Nat.ne_of_gt (Fr.lt h)
  have c1 := f1.2.1 _ _ hne (get_new g (.lst cs))
  obtain ⟨gn, hgn⟩ : ∃ x : G, x = g1 ++ [O.lst [D.tup [.str "at", .int t]]] := ⟨_, rfl⟩
  have gr1 : Gr g1 gn := ⟨_, hgn⟩
  have gN := gr1.get c1
  have gn1 : gn[g1.length]? = some (.lst [D.tup [.str "at", .int t]]) := by rw [hgn]; exact get_new _ _
  have hA := add_ref gN gn1
  have hL : newL (cs ++ [D.tup [.str "at", .int t]]) gn = .ok (.ref gn.length) (gn ++ [.lst (cs ++ [D.tup [.str "at", .int t]])]) := newL_ok (by simp [hl7]) _
  have r1 : Rd gn i := f1.2.2.gr gr1
  obtain ⟨w, g2, e2, f2, hw⟩ := (pick_new n gn i (cs ++ [D.tup [.str "at", .int t]]) (by simp) (by simp [hl7]) r1).to
  have h7 : newL ([.tup [.str "item"], .tup [.str "item"], .tup [.str "a"], .tup [.str "a"], .tup [.str "b"], .tup [.str "none"], .tup [.str "at", .int 1]] : List D) g = .ok (.ref g.length) (g ++ [.lst cs]) := by
    rw [hcs]
    exact newL_ok (by rw [hl7]; decide) _
  rw [hL] at hA
  refine Ok.mono (Q := fun z g' => z.2 = .rt w ∧ g' = g2) ?_ ?_
  · simp [d__law_val, exs, exe, ev, evs, h7, e1, ← hgn, hA, e2]
  · rintro ⟨e, f⟩ _ ⟨hz, rfl⟩
    have hz : f = .rt w := hz
    subst hz
    refine ⟨(f0.trans f1).trans ((Fr.gr f1.2.2 gr1).trans f2), ?_⟩
    rcases List.mem_append.mp hw with hw | hw
    · exact hp w hw
    · rw [List.mem_singleton.mp hw]
      exact ⟨.at t, rfl, h0, by omega⟩
theorem test_ok (n : Nat) (g : G) (i : Nat) (h : Rd g i) : Ok (call P (n + 4) "" "_law_test" [.ref i] g) fun v g' => Fr i g g' ∧ ∃ t, v = tsD t ∧ tsOk t := by
  refine body_run (n := n + 3) fn_test rfl ?_
  generalize hcs : ([.str "same", .str "like", .str "in", .str "less", .str "in", .str "like"] : List D) = cs
  have hl6 : cs.length = 6 := by rw [← hcs]; rfl
  obtain ⟨w, g1, e1, f1, hw⟩ := (pick_new (n + 1) g i cs (by omega) (by omega) h).to
  obtain ⟨v1, g2, e2, f2, p1, rfl, hv1⟩ := (val_ok n g1 i f1.st).to
  obtain ⟨v2, g3, e3, f3, p2, rfl, hv2⟩ := (val_ok n g2 i f2.st).to
  obtain ⟨v, g4, e4, f4, l4, t, rfl, h0, h1⟩ := (draw (n + 2) g3 i 4 (by omega) (by omega) f3.st).to
  have h6 : newL ([.str "same", .str "like", .str "in", .str "less", .str "in", .str "like"] : List D) g = .ok (.ref g.length) (g ++ [.lst cs]) := by
    rw [hcs]
    exact newL_ok (by rw [hl6]; decide) _
  have fr := ((f1.trans f2).trans f3).trans f4
  have hws : ∃ u : Wd, w = .str (wdS u) := by
    rw [← hcs] at hw
    simp at hw
    rcases hw with rfl | rfl | rfl | rfl | rfl | rfl
    · exact ⟨.same, rfl⟩
    · exact ⟨.alike, rfl⟩
    · exact ⟨.in_, rfl⟩
    · exact ⟨.below, rfl⟩
    · exact ⟨.in_, rfl⟩
    · exact ⟨.alike, rfl⟩
  obtain ⟨u, rfl⟩ := hws
  generalize hu : wdS u = ws at e1
  by_cases ht : t = 0
  · refine Ok.mono (Q := fun z g' => z.2 = .rt (.tup [.str "not", .tup [.str ws, pvD p1, pvD p2]]) ∧ g' = g4) ?_ ?_
    · simp [d__law_test, exs, exe, ev, evs, h6, e1, e2, e3, e4, ht]
    · rintro ⟨e, f⟩ _ ⟨hz, rfl⟩
      have hz : f = _ := hz
      subst hz
      exact ⟨fr, ⟨true, u, p1, p2⟩, by rw [← hu]; rfl, hv1, hv2⟩
  · refine Ok.mono (Q := fun z g' => z.2 = .rt (.tup [.str ws, pvD p1, pvD p2]) ∧ g' = g4) ?_ ?_
    · simp [d__law_test, exs, exe, ev, evs, h6, e1, e2, e3, e4, ht]
    · rintro ⟨e, f⟩ _ ⟨hz, rfl⟩
      have hz : f = _ := hz
      subst hz
      exact ⟨fr, ⟨false, u, p1, p2⟩, by rw [← hu]; rfl, hv1, hv2⟩
/-- a drawn block -/
def BlkR (m cap : Nat) (v : D) : Prop := ∃ b, v = .tup (bkD b) ∧ bkLen b ≤ cap ∧ bkOk m b
theorem block_of (m : Nat) (hm : m ≤ 2) (n : Nat) (deep : Int) (hs : ∀ (g : G) (i : Nat), Rd g i → Ok (call P (n + 2) "" "_law_statement" [.ref i, .int deep] g) fun v g' => Fr i g g' ∧ ∃ s, v = smD s ∧ smOk m s) (cap : Nat) (hc : cap < 100) (g : G) (i : Nat) (h : Rd g i) :
    Ok (call P (n + 3) "" "_law_block" [.ref i, .int deep, .int cap] g) fun v g' => Fr i g g' ∧ BlkR m cap v := by
  refine body_run (n := n + 2) fn_lblock rfl ?_
  obtain ⟨v, g1, e1, f1, l1, t, rfl, h0, h1⟩ := (draw (n + 1) g i (cap + 1) (by omega) (by omega) h).to
  obtain ⟨c, rfl⟩ : ∃ c : Nat, t = (c : Int) := ⟨t.toNat, by omega⟩
  have hr : rng1 (.int (c : Int)) = some (c, .rng 0 1) := rng1_ok _ (by omega)
  simp [d__law_block, exs, exe, ev, evs, evI, e1, hr]
  have hpi : g1.length ≠ i := Nat.ne_of_gt (Fr.lt f1.st)
  refine Ok.mono (comp_inv (fun k acc g' => acc.length = k ∧ Fr i g1 g' ∧ ∀ s, s ∈ acc → ∃ t, s = smD t ∧ smOk m t) ?step ?stop _ _ [] _ (by simp) ⟨rfl, Fr.gr f1.st (.app _ _), by simp⟩ (get_new _ _)) ?fin
  case stop => exact fun acc g' _ => item_rng_end g'
  case step =>
    rintro k acc g2 hk ⟨hl, f2, ha⟩ hp
    refine ⟨_, item_rng hk g2, ?_⟩
    obtain ⟨v, g3, e3, f3, hv⟩ := (hs g2 i f2.st).to
    simp [bindT, Uk.wipe, e3]
    have hp3 := f3.2.1 _ _ hpi hp
    refine ⟨hp3, by omega, hl, (f2.trans f3).set (Nat.le_refl _) hpi _, ?_⟩
    rintro s (hs' | rfl)
    · exact ha s hs'
    · exact hv
  case fin =>
    rintro _ g2 ⟨acc, ⟨hl, f2, ha⟩, hp⟩
    have ht : builtin ⟨P, call P (n + 2), call P (n + 1), none⟩ .tuple [.ref g1.length] g2 = .ok (.tup acc) g2 := by
      show orElse (lsOf g2 g1.length) (fun xs => newT xs g2) = _
      rw [lsOf_eq hp, orElse_some, newT_ok (by simp; omega)]
    simp [ht]
    obtain ⟨b, rfl, hb⟩ := bk_of ha
    exact ⟨f1.trans f2, b, rfl, by rw [← bkD_len]; omega, hb⟩
theorem statement_of (m : Nat) (hm : m ≤ 2) (n : Nat) (hb : ∀ m', m = m' + 1 → ∀ (g : G) (i : Nat), Rd g i → Ok (call P (n + 5) "" "_law_block" [.ref i, .int (2 - (m' : Int)), .int 2] g) fun v g' => Fr i g g' ∧ BlkR m' 2 v) (g : G) (i : Nat) (h : Rd g i) :
    Ok (call P (n + 6) "" "_law_statement" [.ref i, .int (2 - (m : Int))] g) fun v g' => Fr i g g' ∧ ∃ s, v = smD s ∧ smOk m s := by
  refine body_run (n := n + 5) fn_lstatement rfl ?_
  obtain ⟨v, g1, e1, f1, _, t, rfl, h0, h1⟩ := (draw (n + 4) g i 10 (by omega) (by omega) h).to
  by_cases ht : t = 0
  · subst ht
    refine Ok.mono (Q := fun z g' => z.2 = .rt (.tup [.str "break"]) ∧ g' = g1) ?_ ?_
    · simp [d__law_statement, exs, exe, ev, evs, e1]
    · rintro ⟨e, f⟩ _ ⟨hz, rfl⟩
      have hz : f = _ := hz
      subst hz
      exact ⟨f1, .brk, rfl, by unfold smOk; trivial⟩
  · by_cases hset : t < 5 ∨ m = 0
    · -- a set
      obtain ⟨v1, g2, e2, f2, p1, rfl, hv1⟩ := (val_ok (n + 2) g1 i f1.st).to
      obtain ⟨v, g3, e3, f3, _, t2, rfl, _, _⟩ := (draw (n + 4) g2 i 5 (by omega) (by omega) f2.st).to
      have hor : t < 5 ∨ ¬ t < 5 ∧ (m : Int) = 0 := by omega
      -- behind the value
      have tail : ∀ (g4 : G) (v2 : Vl), Fr i g g4 → vlOk v2 → ∃ g5 x, call P (n + 5) "" "_law_pick" [.ref i, .ref g4.length] (g4 ++ [.lst [.str "a", .str "a", .str "b"]]) = .ok (.str (nmS x)) g5 ∧ Fr i g g5 ∧ smOk m (.set x v2) := by
        intro g4 v2 hf hv2
        obtain ⟨w, g5, e5, f5, hw⟩ := (pick_new (n + 3) g4 i [.str "a", .str "a", .str "b"] (by simp) (by simp) hf.st).to
        have hx : ∃ x : Nm, w = .str (nmS x) := by
          simp at hw
          rcases hw with rfl | rfl
          · exact ⟨.a, rfl⟩
          · exact ⟨.b, rfl⟩
        obtain ⟨x, rfl⟩ := hx
        exact ⟨g5, x, e5, hf.trans f5, by unfold smOk; exact hv2⟩
      by_cases ht2 : t2 = 0
      · obtain ⟨w, g4, e4, f4, hw⟩ := (pick_new (n + 3) g3 i [.tup [.str "item"], .tup [.str "a"], .tup [.str "b"]] (by simp) (by simp) f3.st).to
        have hpw : ∃ x : Bs, w = bsD x := by
          simp at hw
          rcases hw with rfl | rfl | rfl
          · exact ⟨.item, rfl⟩
          · exact ⟨.nm .a, rfl⟩
          · exact ⟨.nm .b, rfl⟩
        obtain ⟨y, rfl⟩ := hpw
        obtain ⟨g5, x, e5, f5, hst⟩ := tail g4 (.copy y) (((f1.trans f2).trans f3).trans f4) trivial
        refine Ok.mono (Q := fun z g' => z.2 = .rt (.tup [.str "set", .str (nmS x), .tup [.str "copy", bsD y]]) ∧ g' = g5) ?_ ?_
        · rcases hor with hlt | ⟨hlt, hm0⟩
          · simp [d__law_statement, exs, exe, ev, evs, e1, ht, hlt, e2, e3, ht2, e4, e5]
          · simp [d__law_statement, exs, exe, ev, evs, e1, ht, hlt, hm0, e2, e3, ht2, e4, e5]
        · rintro ⟨e, f⟩ _ ⟨hz, rfl⟩
          have hz : f = _ := hz
          subst hz
          exact ⟨f5, _, rfl, hst⟩
      · obtain ⟨g5, x, e5, f5, hst⟩ := tail g3 (.pv p1) ((f1.trans f2).trans f3) hv1
        refine Ok.mono (Q := fun z g' => z.2 = .rt (.tup [.str "set", .str (nmS x), pvD p1]) ∧ g' = g5) ?_ ?_
        · rcases hor with hlt | ⟨hlt, hm0⟩
          · simp [d__law_statement, exs, exe, ev, evs, e1, ht, hlt, e2, e3, ht2, e5]
          · simp [d__law_statement, exs, exe, ev, evs, e1, ht, hlt, hm0, e2, e3, ht2, e5]
        · rintro ⟨e, f⟩ _ ⟨hz, rfl⟩
          have hz : f = _ := hz
          subst hz
          exact ⟨f5, _, rfl, hst⟩
    · -- an if
      obtain ⟨m', rfl⟩ : ∃ m', m = m' + 1 := ⟨m - 1, by omega⟩
      have hlt : ¬ t < 5 := by omega
      have hne : ¬ (2 - ((m' : Int) + 1) = 2) := by omega
      obtain ⟨v1, g2, e2, f2, t1, rfl, hv1⟩ := (test_ok (n + 1) g1 i f1.st).to
      obtain ⟨_, g3, e3, f3, b1, rfl, l1, s1⟩ := (hb m' rfl g2 i f2.st).to
      obtain ⟨_, g4, e4, f4, b2, rfl, l2, s2⟩ := (hb m' rfl g3 i f3.st).to
      have ed : (2 - ((m' : Int) + 1)) + 1 = 2 - (m' : Int) := by omega
      refine Ok.mono (Q := fun z g' => z.2 = .rt (.tup [.str "if", tsD t1, .tup (bkD b1), .tup (bkD b2)]) ∧ g' = g4) ?_ ?_
      · simp [d__law_statement, exs, exe, ev, evs, e1, ht, hlt, hne, e2, ed, e3, e4]
      · rintro ⟨e, f⟩ _ ⟨hz, rfl⟩
        have hz : f = _ := hz
        subst hz
        exact ⟨(((f1.trans f2).trans f3).trans f4), .ifs t1 b1 b2, rfl, by unfold smOk; exact ⟨hv1, m', rfl, by omega, by omega, s1, s2⟩⟩
theorem block_ok : ∀ (m : Nat), m ≤ 2 → ∀ (n cap : Nat), cap < 100 → ∀ (g : G) (i : Nat), Rd g i → Ok (call P (n + 4 * m + 7) "" "_law_block" [.ref i, .int (2 - (m : Int)), .int cap] g) fun v g' => Fr i g g' ∧ BlkR m cap v := by
  intro m
  induction m with
  | zero =>
    intro hm n cap hc g i h
    exact block_of 0 hm (n + 4) _ (fun g i h => statement_of 0 hm n (fun m' e => by omega) g i h) cap hc g i h
  | succ m ih =>
    intro hm n cap hc g i h
    refine block_of (m + 1) hm (n + 4 * (m + 1) + 4) _ (fun g i h => ?_) cap hc g i h
    refine statement_of (m + 1) hm (n + 4 * (m + 1)) (fun m' e g i h => ?_) g i h
    obtain rfl : m' = m := by omega
    have := ih (by omega) (n + 2) 2 (by omega) g i h
    rw [show n + 4 * (m' + 1) + 5 = n + 2 + 4 * m' + 7 from by omega]
    exact this
end UkW
end
section
set_option Elab.async false
set_option linter.all false
set_option maxRecDepth 100000
set_option autoImplicit false
set_option maxHeartbeats 1000000
namespace UkW
open Uk
open Mac (Wo Th Ot Nm Bs Pv Vl Wd Ts Sm Bk)
/-! ## The seed -/
theorem pow_ten (g : G) : binop .pow (.int 10) (.int 18) g = .ok (.int 1000000000000000000) g := by
  have h : (0 : Int) ≤ 18 ∧ (18 : Int) ≤ 1000000 ∧ (10 : Int).natAbs < 2 ^ 64 := by decide
  show (if (0 : Int) ≤ 18 ∧ (18 : Int) ≤ 1000000 ∧ (10 : Int).natAbs < 2 ^ 64 then R.ok (D.int (10 ^ (18 : Int).toNat)) g else .bad) = _
  rw [if_pos h]
  rfl
theorem abs_int (c : Cx) (i : Int) (g : G) : builtin c .abs [.int i] g = .ok (.int (if i < 0 then -i else i)) g := rfl
theorem int_int (c : Cx) (i : Int) (g : G) : builtin c .int [.int i] g = .ok (.int i) g := rfl
theorem mod_m (i : Int) (g : G) : binop .mod (.int i) (.int 2147483647) g = .ok (.int (i % 2147483647)) g := mod_pos _ _ _ (by decide)
theorem comp_fm2 {w : Wk} {turn : D → G → R (Option D)} (g0 : G) {g1 : G} {p : Nat} (hp : p = g0.length) (hg : g1 = g0 ++ [.lst []]) {xs : List D} {n : Nat} (f : D → Option D) (hn : n = xs.length) (hw : ∀ g', Gr g0 g' → ∀ i, w.item n i g' = some xs[i]?) (hl : xs.length ≤ line)
    (ht : ∀ x, x ∈ xs → ∀ g', Gr g0 g' → Ok (turn x g') fun z g'' => z = f x ∧ Gr g' g'') : Ok (compL w n p turn n 0 g1) fun _ g' => Gr g0 g' ∧ g'[g0.length]? = some (.lst (xs.filterMap f)) := by
  subst hp hg
  exact comp_fm f hn hw hl ht
theorem big_cells (T : Int) (ns : List Int) : ∃ r : List Int, (ns.map D.int).filterMap (fun x => match x with
            | .int q => if T ≤ q then some (.int q) else none
            | _ => none) = r.map D.int ∧ r.length ≤ ns.length := ⟨ns.filter fun q => decide (T ≤ q), by
          induction ns with
          | nil => rfl
          | cons q ns ih =>
            by_cases hq : T ≤ q
            · simp [hq]
              simpa using ih
            · simp [hq]
              simpa using ih, List.length_filter_le _ _⟩
theorem random_ok (salt : Int) (n : Nat) (ns : List Int) (hn : ns.length ≤ 100) (g : G) : Ok (call P (n + 1) "" "_law_random" [.fro (ns.map D.int), .int salt] g) fun v g' => ∃ i, v = .ref i ∧ Rd g' i := by
  refine body_run fn_random rfl ?_
  generalize hM : (2147483647 : Int) = M
  have hmod : ∀ (i : Int) (g : G), binop .mod (.int i) (.int M) g = .ok (.int (i % M)) g := fun i g => mod_pos _ _ _ (by omega)
  have hb : d__law_random.body = (.c (.asg 2 (.loc 1))
 (.c (.for_ (.one 3) (.seq (.loc 0)) (.c (.asg 2 (.bin .mod (.bi .int (.c (.bin .add (.bin .mul (.loc 2) (.cst (.int 31))) (.bi .abs (.c (.loc 3) .n))) .n)) (.cst (.int M))))
 .n))
 (.c (.ret (.bin .add (.lst (.c (.loc 2) (.c (.cst (.int 0)) .n))) (.comp [3] (.loc 3) (.one 3) (.seq (.loc 0)) (.cmp .ge (.loc 3) (.bin .pow (.cst (.int 10)) (.cst (.int 18)))))))
 .n))) := by
    rw [← hM]
    rfl
  rw [hb]
  have hN : d__law_random.N.length = 4 := rfl
  rw [hN]
  simp [exs, exe, ev, evs, evI, walkOf]
  refine Ok.mono (for_inv (fun i δ g' => (∃ (s : Int) (x3 : Option D), δ = [some (D.fro (ns.map D.int)), some (.int salt), some (.int s), x3]) ∧ g' = g) (fun _ _ => False) ?step ?stop ns.length 0 _ _ (by simp) ⟨⟨_, _, rfl⟩, rfl⟩) ?fin
  case stop =>
    rintro δ g' _
    simp [Wk.item]
  case step =>
    rintro i _ _ hi ⟨⟨s, x3, rfl⟩, rfl⟩
    refine ⟨.int ns[i], [some (D.fro (ns.map D.int)), some (.int salt), some (.int s), some (.int ns[i])], ?_, rfl, ?_⟩
    · simp [Wk.item, hi]
    · simp [exs, exe, ev, evs, mul31, abs_int, int_int, hmod]
  case fin =>
    intro z g' hz
    obtain ⟨e, f⟩ := z
    cases f with
    | rt d => exact hz.elim
    | nx =>
      obtain ⟨⟨s, x3, rfl⟩, rfl⟩ := hz
      simp
      generalize hT : (1000000000000000000 : Int) = T
      refine Ok.mono (comp_fm2 (g' ++ [.lst [.int s, .int 0]]) (by simp) (by simp) (xs := ns.map D.int) (fun x => match x with
        | .int q => if T ≤ q then some (.int q) else none
        | _ => none) (by simp) items_fro (by simp; omega) fun x hxm g2 hg2 => ?_) fun _ g2 ⟨h1, h2⟩ => ?_
      · obtain ⟨q, hq, rfl⟩ := List.mem_map.mp hxm
        by_cases hT2 : T ≤ q
        · simp [bindT, Uk.wipe, pow_ten, hT, hT2]; exact .refl _
        · simp [bindT, Uk.wipe, pow_ten, hT, hT2]; exact .refl _
      · have h3 := h1.get (get_new g' (.lst [.int s, .int 0]))
        have e := big_cells T ns
        obtain ⟨r, e1, e2⟩ := e
        rw [e1] at h2
        have e4 : (g' ++ [O.lst [D.int s, D.int 0]]).length = g'.length + 1 := by simp
        rw [e4] at h2
        have hL : newL ([D.int s, D.int 0] ++ r.map D.int) g2 = .ok (.ref g2.length) (g2 ++ [.lst ([D.int s, D.int 0] ++ r.map D.int)]) := newL_ok (by simp; omega) _
        have hA := add_ref h3 h2
        rw [hL] at hA
        simp [hA]
        exact ⟨_, get_new _ _, s, 0, r, rfl⟩
/-! ## whiles -/
theorem while_inv {test : Env → G → R D} {body : Env → G → RS} {Q : Env × Fl → G → Prop} (I : Env → G → Prop) (μ : Env → G → Nat)
    (step : ∀ δ g, I δ g → Ok (test δ g) fun v g' => (v = .bl false ∧ Q (δ, .nx) g') ∨ (v = .bl true ∧ Ok (body δ g') fun z g'' => match z.2 with
      | .nx => I z.1 g'' ∧ μ z.1 g'' < μ δ g
      | .rt _ => Q z g'')) : ∀ (k : Nat) (δ : Env) (g : G), μ δ g < k → I δ g → Ok (whileL test body k δ g) Q
  | 0, δ, g, h, _ => by omega
  | k + 1, δ, g, h, hI => by
    unfold whileL
    rw [Ok_bind]
    refine (step δ g hI).mono fun v g' q => ?_
    rcases q with ⟨rfl, q⟩ | ⟨rfl, q⟩
    · exact q
    · dsimp only
      rw [Ok_bind]
      refine q.mono fun z g'' hz => ?_
      obtain ⟨e, f⟩ := z
      cases f with
      | nx => exact while_inv I μ step k e g'' (by have q : μ e g'' < μ δ g := hz.2; omega) hz.1
      | rt d => exact hz
/-! ## Loops as people write them -/
theorem fn_known : P.fn "" "_law_known" = some d__law_known := by rfl
theorem fn_small : P.fn "" "_law_small" = some d__law_small := by rfl
def take1 : Sm := .set .a (.pv (.bs .item))
def keep1 : Sm := .set .b (.pv (.bs .item))
def kGreat (u : Wd) (up : Bool) : Bk := ofL [.ifs ⟨false, u, .bs (.nm .a), .none⟩ (ofL [take1]) (ofL [.ifs (if up then ⟨false, .below, .bs (.nm .a), .bs .item⟩ else ⟨false, .below, .bs .item, .bs (.nm .a)⟩) (ofL [take1]) .nil])]
def kFirst (u : Wd) : Bk := ofL [.ifs ⟨false, u, .bs .item, .at 1⟩ (ofL [take1, .brk]) .nil]
def kTwice (u : Wd) : Bk := ofL [.ifs ⟨false, u, .bs .item, .bs (.nm .a)⟩ (ofL [keep1]) (ofL [take1])]
def kOther (u : Wd) : Bk := ofL [.ifs ⟨true, u, .bs .item, .bs (.nm .a)⟩ (ofL [.set .b (.pv (.bs (.nm .a))), take1]) .nil]
def kLast (u : Wd) : Bk := ofL [.ifs ⟨false, u, .bs .item, .bs .item⟩ (ofL [take1]) (ofL [keep1])]
/-- a block that makes a loop of at most m statements -/
def SmallR (m : Nat) (v : D) : Prop := ∃ b, v = .tup (bkD b) ∧ bkOk 2 b ∧ (rowsT [] 0 b).length ≤ m ∧ bkLen b ≤ 3
theorem newL_5 (a b c d e : D) (g : G) : newL [a, b, c, d, e] g = .ok (.ref g.length) (g ++ [.lst [a, b, c, d, e]]) := newL_ok (by simp) g
theorem known_ok (n : Nat) (g : G) (i : Nat) (h : Rd g i) : Ok (call P (n + 3) "" "_law_known" [.ref i] g) fun v g' => Fr i g g' ∧ SmallR 4 v := by
  refine body_run (n := n + 2) fn_known rfl ?_
  obtain ⟨w, g1, e1, f1, hw⟩ := (pick_new n g i [.str "in", .str "like", .str "same"] (by simp) (by simp) h).to
  have hws : ∃ u : Wd, w = .str (wdS u) := by
    simp at hw
    rcases hw with rfl | rfl | rfl
    · exact ⟨.in_, rfl⟩
    · exact ⟨.alike, rfl⟩
    · exact ⟨.same, rfl⟩
  obtain ⟨u, rfl⟩ := hws
  generalize hu : wdS u = ws at e1
  obtain ⟨w2, g2, e2, f2, hw2⟩ := (pick_new n g1 i [.tup [.str "less", .tup [.str "a"], .tup [.str "item"]], .tup [.str "less", .tup [.str "item"], .tup [.str "a"]]] (by simp) (by simp) f1.st).to
  let tk : D := .tup [.str "set", .str "a", .tup [.str "item"]]
  let kp : D := .tup [.str "set", .str "b", .tup [.str "item"]]
  let x1 : D := .tup [.tup [.str "if", .tup [.str ws, .tup [.str "a"], .tup [.str "none"]], .tup [tk], .tup [.tup [.str "if", w2, .tup [tk], .tup []]]]]
  let x2 : D := .tup [.tup [.str "if", .tup [.str ws, .tup [.str "item"], .tup [.str "at", .int 1]], .tup [tk, .tup [.str "break"]], .tup []]]
  let x3 : D := .tup [.tup [.str "if", .tup [.str ws, .tup [.str "item"], .tup [.str "a"]], .tup [kp], .tup [tk]]]
  let x4 : D := .tup [.tup [.str "if", .tup [.str "not", .tup [.str ws, .tup [.str "item"], .tup [.str "a"]]], .tup [.tup [.str "set", .str "b", .tup [.str "a"]], tk], .tup []]]
  let x5 : D := .tup [.tup [.str "if", .tup [.str ws, .tup [.str "item"], .tup [.str "item"]], .tup [tk], .tup [kp]]]
  obtain ⟨v, g3, e3, f3, hv⟩ := (pick_new n g2 i [x1, x2, x3, x4, x5] (by simp) (by simp) f2.st).to
  refine Ok.mono (Q := fun z g' => z.2 = .rt v ∧ g' = g3) ?_ ?_
  · simp [d__law_known, exs, exe, ev, evs, e1, e2, newL_5]
    rw [e3]
    simp
  · rintro ⟨e, f⟩ _ ⟨hz, rfl⟩
    have hz : f = _ := hz
    subst hz
    refine ⟨(f1.trans f2).trans f3, ?_⟩
    have ok1 : ∀ (b : Bk), (∀ t y z, toL b = [.ifs t y z] → tsOk t → bkLen y ≤ 13 → bkLen z ≤ 13 → bkOk 1 y → bkOk 1 z → bkOk 2 b) := by
      intro b t y z e h1 h2 h3 h4 h5
      refine (bkOk_L b).mpr ?_
      rw [e]
      intro s hs
      rw [List.mem_singleton.mp hs]
      unfold smOk
      exact ⟨h1, 1, rfl, h2, h3, h4, h5⟩
    simp only [List.mem_cons, List.not_mem_nil, or_false] at hv
    rcases hv with rfl | rfl | rfl | rfl | rfl
    · simp only [List.mem_cons, List.not_mem_nil, or_false] at hw2
      rcases hw2 with rfl | rfl
      · refine ⟨kGreat u true, by subst hu; rfl, ?_, ?_, Nat.le_of_ble_eq_true rfl⟩
        · refine ok1 _ _ _ _ rfl (by simp [tsOk, pvOk]) (by decide) (by decide) ?_ ?_ <;> simp [ofL, bkOk, smOk, take1, vlOk, pvOk, tsOk, bkLen]
        · simp [kGreat, ofL, rowsT, rowsS, take1]
      · refine ⟨kGreat u false, by subst hu; rfl, ?_, ?_, Nat.le_of_ble_eq_true rfl⟩
        · refine ok1 _ _ _ _ rfl (by simp [tsOk, pvOk]) (by decide) (by decide) ?_ ?_ <;> simp [ofL, bkOk, smOk, take1, vlOk, pvOk, tsOk, bkLen]
        · simp [kGreat, ofL, rowsT, rowsS, take1]
    · refine ⟨kFirst u, by subst hu; rfl, ?_, ?_, Nat.le_of_ble_eq_true rfl⟩
      · refine ok1 _ _ _ _ rfl (by simp [tsOk, pvOk]) (by decide) (by decide) ?_ ?_ <;> simp [ofL, bkOk, smOk, take1, vlOk, pvOk]
      · simp [kFirst, ofL, rowsT, rowsS, take1]
    · refine ⟨kTwice u, by subst hu; rfl, ?_, ?_, Nat.le_of_ble_eq_true rfl⟩
      · refine ok1 _ _ _ _ rfl (by simp [tsOk, pvOk]) (by decide) (by decide) ?_ ?_ <;> simp [ofL, bkOk, smOk, take1, keep1, vlOk, pvOk]
      · simp [kTwice, ofL, rowsT, rowsS, take1, keep1]
    · refine ⟨kOther u, by subst hu; rfl, ?_, ?_, Nat.le_of_ble_eq_true rfl⟩
      · refine ok1 _ _ _ _ rfl (by simp [tsOk, pvOk]) (by decide) (by decide) ?_ ?_ <;> simp [ofL, bkOk, smOk, take1, vlOk, pvOk]
      · simp [kOther, ofL, rowsT, rowsS, take1]
    · refine ⟨kLast u, by subst hu; rfl, ?_, ?_, Nat.le_of_ble_eq_true rfl⟩
      · refine ok1 _ _ _ _ rfl (by simp [tsOk, pvOk]) (by decide) (by decide) ?_ ?_ <;> simp [ofL, bkOk, smOk, take1, keep1, vlOk, pvOk]
      · simp [kLast, ofL, rowsT, rowsS, take1, keep1]
/-! ## Random loops of few statements -/
theorem lwalk_T (n : Nat) {k : Nat} (hk : k ≤ 3) {b : Bk} (hb : bkOk k b) (hl : bkLen b ≤ 13) (g : G) : Ok (call P (n + 4) "" "_law_walk" [.tup (bkD b), .tup []] g) fun v g' => NewL g ((rowsT [] 0 b).map fun r => rowD (rowTD r)) v g' := by
  have h3 : bkOk 3 b := by
    match k, hk with
    | 0, _ => exact bkOk_up b (bkOk_up b (bkOk_up b hb))
    | 1, _ => exact bkOk_up b (bkOk_up b hb)
    | 2, _ => exact bkOk_up b hb
    | 3, _ => exact hb
  have h := lwalk_ok 3 [] (bkD b) (by rw [bkD_len]; exact hl) (st_bk b h3) (by omega) (by simp) n g
  have e := rows_T b [] h3
  rw [show List.map D.int [] = [] from rfl] at e
  rw [e, List.map_map] at h
  exact h
theorem cut_last (xs : List D) (g : G) (hl : xs.length ≤ 1000) : getCut (.tup xs) none (some (-1)) g = .ok (.tup xs.dropLast) g := by
  have e : sIxE xs.length xs.length (some (-1)) = xs.length - 1 := by
    show (if (-1 : Int) < 0 then ((-1 : Int) + xs.length).toNat else min (-1 : Int).toNat xs.length) = _
    rw [if_pos (by decide)]
    omega
  have e2 : cutL xs 0 (xs.length - 1) = xs.dropLast := by
    unfold cutL
    rw [List.dropLast_eq_take]
    simp
  show newT (cutL xs (sIxE xs.length 0 none) (sIxE xs.length xs.length (some (-1)))) g = _
  rw [e]
  show newT (cutL xs 0 (xs.length - 1)) g = _
  rw [e2]
  exact newT_ok (by simp; omega) g
theorem neg_int (c : Cx) (δ : Env) (g : G) : ev c (.neg (.cst (.int 1))) δ g = .ok (.int (-1)) g := rfl
theorem small_ok (cap : Nat) (n : Nat) (g : G) (i : Nat) (h : Rd g i) : Ok (call P (n + 16) "" "_law_small" [.ref i, .int cap] g) fun v g' => Fr i g g' ∧ SmallR (max cap 4) v := by
  refine body_run (n := n + 15) fn_small rfl ?_
  obtain ⟨v, g1, e1, f1, _, t, rfl, h0, h1⟩ := (draw (n + 14) g i 3 (by omega) (by omega) h).to
  by_cases ht : t = 0
  · obtain ⟨v, g2, e2, f2, b, rfl, hb, hr, hl⟩ := (known_ok (n + 12) g1 i f1.st).to
    refine Ok.mono (Q := fun z g' => z.2 = .rt (.tup (bkD b)) ∧ g' = g2) ?_ ?_
    · simp [d__law_small, exs, exe, ev, evs, e1, ht, e2]
    · rintro ⟨e, f⟩ _ ⟨hz, rfl⟩
      have hz : f = _ := hz
      subst hz
      exact ⟨f1.trans f2, b, rfl, hb, by omega, hl⟩
  · obtain ⟨v, g2, e2, f2, b, rfl, hl, hb⟩ := (block_ok 2 (by omega) n 3 (by omega) g1 i f1.st).to
    rw [show n + 4 * 2 + 7 = n + 15 from by omega] at e2
    have e2 : call P (n + 15) "" "_law_block" [.ref i, .int 0, .int 3] g1 = .ok (.tup (bkD b)) g2 := e2
    simp [d__law_small, exs, exe, ev, evs, e1, ht, e2]
    refine Ok.mono (while_inv (Q := fun z g' => z.2 = .nx ∧ Fr i g g' ∧ ∃ b, z.1 = [some (.ref i), some (.int cap), some (.tup (bkD b))] ∧ bkOk 2 b ∧ (rowsT [] 0 b).length ≤ cap ∧ bkLen b ≤ 3) (fun δ g' => Fr i g g' ∧ ∃ b, δ = [some (.ref i), some (.int cap), some (.tup (bkD b))] ∧ bkOk 2 b ∧ bkLen b ≤ 3) (fun δ g' => match δ with
      | [_, _, some (.tup l)] => l.length
      | _ => 0) ?step most _ _ ?mu ⟨f1.trans f2, b, rfl, hb, hl⟩) ?fin
    case mu =>
      show (bkD b).length < most
      rw [bkD_len]
      have : most = 18446744073709551616 := by rfl
      omega
    case step =>
      rintro δ g3 ⟨f3, b, rfl, hb, hl⟩
      obtain ⟨v, g4, e4, j, rfl, hg, hj, hw⟩ := (lwalk_T (n + 11) (by omega) hb (by omega) g3).to
      rw [show n + 11 + 4 = n + 15 from by omega] at e4
      have f4 : Fr i g g4 := f3.trans (Fr.gr f3.st hg)
      simp [e4, len_ref hw]
      by_cases hc : cap < (rowsT [] 0 b).length
      · have hc' : (cap : Int) < ((rowsT [] 0 b).length : Int) := by omega
        have h1000 : (bkD b).length ≤ 1000 := by rw [bkD_len]; omega
        right
        simp [hc', cut_last _ _ h1000]
        have hne : bkD b ≠ [] := by
          intro z
          cases b with
          | nil => simp [rowsT] at hc
          | cons _ _ => simp [bkD] at z
        refine ⟨hc, ⟨f4, ofL (toL b).dropLast, ?_, bkOk_of fun s hs => (bkOk_L b).mp hb s (List.dropLast_subset _ hs), ?_⟩, ?_⟩
        · rw [bkD_ofL, bkD_L, List.map_dropLast]
        · rw [bkLen_L, toL_ofL]
          rw [bkLen_L] at hl
          simp
          omega
        · have := List.length_pos_iff.mpr hne
          omega
      · have hc' : ¬ (cap : Int) < ((rowsT [] 0 b).length : Int) := by omega
        left
        exact ⟨by omega, f4, b, rfl, hb, by omega, hl⟩
    case fin =>
      rintro ⟨e, f⟩ g' ⟨hz, f3, b, hb, h2, h3, h4⟩
      have hz : f = _ := hz
      have hb : e = _ := hb
      subst hz hb
      simp
      exact ⟨f3, b, rfl, h2, by omega, h4⟩
end UkW
end
section
set_option Elab.async false
set_option linter.all false
set_option maxRecDepth 100000
set_option autoImplicit false
set_option maxHeartbeats 1000000
namespace UkW
open Uk
/-! ## Walks over what stays, as lists -/
def walkT (t : Tg) (body : Env → G → RS) : List D → Env → G → RS
  | [], δ, g => .ok (δ, .nx) g
  | x :: r, δ, g => match bindT t x δ with
    | none => .bad
    | some δ => (body δ g).bind fun z g => match z with
      | (δ, .nx) => walkT t body r δ g
      | z => .ok z g
theorem forL_const {w : Wk} {n : Nat} {t : Tg} {body : Env → G → RS} {xs : List D} (hw : ∀ i g, w.item n i g = some xs[i]?) : ∀ (k i : Nat) (δ : Env) (g : G), i + k = xs.length → forL w n t body k i δ g = walkT t body (xs.drop i) δ g
  | 0, i, δ, g, h => by
    have : i = xs.length := by omega
    subst this
    unfold forL
    rw [hw, List.getElem?_eq_none (Nat.le_refl _), List.drop_length]
    rfl
  | k + 1, i, δ, g, h => by
    have hi : i < xs.length := by omega
    unfold forL
    rw [hw, List.getElem?_eq_getElem hi, List.drop_eq_getElem_cons hi]
    dsimp only
    have e : walkT t body (xs[i] :: xs.drop (i + 1)) δ g = match bindT t xs[i] δ with
      | none => R.bad
      | some δ => (body δ g).bind fun z g => match z with
        | (δ, .nx) => walkT t body (xs.drop (i + 1)) δ g
        | z => .ok z g := rfl
    rw [e]
    cases bindT t xs[i] δ with
    | none => rfl
    | some δ1 =>
      dsimp only
      congr 1
      funext z g'
      obtain ⟨e, f⟩ := z
      cases f with
      | nx => exact forL_const hw k (i + 1) e g' (by omega)
      | rt d => rfl
@[simp] theorem forL_tup (xs : List D) (n : Nat) (t : Tg) (body : Env → G → RS) (δ : Env) (g : G) : forL (.tup xs) n t body xs.length 0 δ g = walkT t body xs δ g := forL_const (w := .tup xs) (fun _ _ => rfl) xs.length 0 δ g (by omega)
@[simp] theorem forL_fro (xs : List D) (n : Nat) (t : Tg) (body : Env → G → RS) (δ : Env) (g : G) : forL (.fro xs) n t body xs.length 0 δ g = walkT t body xs δ g := forL_const (w := .fro xs) (fun _ _ => rfl) xs.length 0 δ g (by omega)
/-- the pairs of an enumerate -/
def enumD : Nat → List D → List D
  | _, [] => []
  | i, x :: r => .tup [.int (i : Nat), x] :: enumD (i + 1) r
theorem enumD_len : ∀ (i : Nat) (xs : List D), (enumD i xs).length = xs.length
  | _, [] => rfl
  | i, x :: r => by simp [enumD, enumD_len (i + 1) r]
theorem enumD_get : ∀ (i : Nat) (xs : List D) (j : Nat), (enumD i xs)[j]? = xs[j]?.map fun x => .tup [.int ((i + j : Nat) : Int), x]
  | _, [], j => by simp [enumD]
  | i, x :: r, 0 => by simp [enumD]
  | i, x :: r, j + 1 => by
    show (enumD (i + 1) r)[j]? = r[j]?.map _
    rw [enumD_get (i + 1) r j]
    congr 1
    funext y
    rw [show i + 1 + j = i + (j + 1) from by omega]
@[simp] theorem forL_etup (xs : List D) (n : Nat) (t : Tg) (body : Env → G → RS) (δ : Env) (g : G) : forL (.etup xs) n t body xs.length 0 δ g = walkT t body (enumD 0 xs) δ g := by
  have h := forL_const (w := .etup xs) (n := n) (t := t) (body := body) (xs := enumD 0 xs) (fun i g => by
    show some (xs[i]?.map _) = some _
    rw [enumD_get, Nat.zero_add]) xs.length 0 δ g (by rw [enumD_len]; omega)
  rw [h]
  rfl
def rngD (n : Nat) : List D := (List.range n).map fun (i : Nat) => .int (i : Int)
theorem forL_rng (n : Nat) (t : Tg) (body : Env → G → RS) (δ : Env) (g : G) : forL (.rng 0 1) n t body n 0 δ g = walkT t body (rngD n) δ g := by
  have h := forL_const (w := .rng 0 1) (n := n) (t := t) (body := body) (xs := rngD n) (fun i g => by
    show some (if i < n then some (D.int (0 + 1 * i)) else none) = some _
    unfold rngD
    rw [List.getElem?_map]
    by_cases h : i < n
    · rw [if_pos h, List.getElem?_range h]
      simp
    · rw [if_neg h, List.getElem?_eq_none (by simp; omega)]
      rfl) n 0 δ g (by simp [rngD])
  exact h
@[simp] theorem walkT_nil (t : Tg) (body : Env → G → RS) (δ : Env) (g : G) : walkT t body [] δ g = .ok (δ, .nx) g := rfl
theorem walkT_cons (t : Tg) (body : Env → G → RS) (x : D) (r : List D) (δ : Env) (g : G) : walkT t body (x :: r) δ g = match bindT t x δ with
    | none => .bad
    | some δ => (body δ g).bind fun z g => match z with
      | (δ, .nx) => walkT t body r δ g
      | z => .ok z g := rfl
/-- a walk by an invariant of what is behind and what is ahead -/
theorem walk_inv {t : Tg} {body : Env → G → RS} {Q : Env × Fl → G → Prop} (I : List D → List D → Env → G → Prop)
    (step : ∀ pre x r δ g, I pre (x :: r) δ g → ∃ δ1, bindT t x δ = some δ1 ∧ Ok (body δ1 g) fun z g' => match z.2 with
      | .nx => I (pre ++ [x]) r z.1 g'
      | .rt _ => Q z g') (fin : ∀ pre δ g, I pre [] δ g → Q (δ, .nx) g) : ∀ (r pre : List D) (δ : Env) (g : G), I pre r δ g → Ok (walkT t body r δ g) Q
  | [], pre, δ, g, h => fin pre δ g h
  | x :: r, pre, δ, g, h => by
    obtain ⟨δ1, h1, h2⟩ := step pre x r δ g h
    rw [walkT_cons, h1]
    dsimp only
    rw [Ok_bind]
    refine h2.mono fun z g' hz => ?_
    obtain ⟨e, f⟩ := z
    cases f with
    | nx => exact walk_inv I step fin r (pre ++ [x]) e g' hz
    | rt d => exact hz
/-! ## == of unlike data -/
@[simp] theorem eqv_non_bl  (b : Bool) : D.eqv .non (.bl b) = false := by unfold D.eqv; rfl
@[simp] theorem eqv_non_int  (i : Int) : D.eqv .non (.int i) = false := by unfold D.eqv; rfl
@[simp] theorem eqv_non_str  (s : String) : D.eqv .non (.str s) = false := by unfold D.eqv; rfl
@[simp] theorem eqv_non_tup  (xs : List D) : D.eqv .non (.tup xs) = false := by unfold D.eqv; rfl
@[simp] theorem eqv_bl_non (b : Bool)  : D.eqv (.bl b) .non = false := by unfold D.eqv; rfl
@[simp] theorem eqv_bl_str (b : Bool) (s : String) : D.eqv (.bl b) (.str s) = false := by unfold D.eqv; rfl
@[simp] theorem eqv_bl_tup (b : Bool) (xs : List D) : D.eqv (.bl b) (.tup xs) = false := by unfold D.eqv; rfl
@[simp] theorem eqv_int_non (i : Int)  : D.eqv (.int i) .non = false := by unfold D.eqv; rfl
@[simp] theorem eqv_int_str (i : Int) (s : String) : D.eqv (.int i) (.str s) = false := by unfold D.eqv; rfl
@[simp] theorem eqv_int_tup (i : Int) (xs : List D) : D.eqv (.int i) (.tup xs) = false := by unfold D.eqv; rfl
@[simp] theorem eqv_str_non (s : String)  : D.eqv (.str s) .non = false := by unfold D.eqv; rfl
@[simp] theorem eqv_str_bl (s : String) (b : Bool) : D.eqv (.str s) (.bl b) = false := by unfold D.eqv; rfl
@[simp] theorem eqv_str_int (s : String) (i : Int) : D.eqv (.str s) (.int i) = false := by unfold D.eqv; rfl
@[simp] theorem eqv_str_tup (s : String) (xs : List D) : D.eqv (.str s) (.tup xs) = false := by unfold D.eqv; rfl
@[simp] theorem eqv_tup_non (xs : List D)  : D.eqv (.tup xs) .non = false := by unfold D.eqv; rfl
@[simp] theorem eqv_tup_bl (xs : List D) (b : Bool) : D.eqv (.tup xs) (.bl b) = false := by unfold D.eqv; rfl
@[simp] theorem eqv_tup_int (xs : List D) (i : Int) : D.eqv (.tup xs) (.int i) = false := by unfold D.eqv; rfl
@[simp] theorem eqv_tup_str (xs : List D) (s : String) : D.eqv (.tup xs) (.str s) = false := by unfold D.eqv; rfl
@[simp] theorem eqv_non_non : D.eqv .non .non = true := by unfold D.eqv; rfl
@[simp] theorem eqv_bl_bl (a b : Bool) : D.eqv (.bl a) (.bl b) = (a == b) := by unfold D.eqv; rfl
@[simp] theorem eqv_tup_tup (xs ys : List D) : D.eqv (.tup xs) (.tup ys) = D.eqvs xs ys := by unfold D.eqv; rfl
@[simp] theorem eqvs_nil : D.eqvs [] [] = true := by unfold D.eqvs; rfl
@[simp] theorem eqvs_nc (x : D) (xs : List D) : D.eqvs [] (x :: xs) = false := by unfold D.eqvs; rfl
@[simp] theorem eqvs_cn (x : D) (xs : List D) : D.eqvs (x :: xs) [] = false := by unfold D.eqvs; rfl
@[simp] theorem eqvs_cc (x y : D) (xs ys : List D) : D.eqvs (x :: xs) (y :: ys) = (D.eqv x y && D.eqvs xs ys) := by rw [D.eqvs]
@[simp] theorem isNon_non : D.isNon .non = true := rfl
@[simp] theorem isNon_bl (b : Bool) : D.isNon (.bl b) = false := rfl
@[simp] theorem isNon_int (i : Int) : D.isNon (.int i) = false := rfl
@[simp] theorem isNon_str (s : String) : D.isNon (.str s) = false := rfl
@[simp] theorem isNon_tup (xs : List D) : D.isNon (.tup xs) = false := rfl
@[simp] theorem isNon_ref (a : Nat) : D.isNon (.ref a) = false := rfl
/-! ## Dicts -/
theorem getIx_dK {g : G} {a : Nat} {kvs : List (D × D)} (h : g[a]? = some (.dK kvs)) (k : String) : getIx (.ref a) (.str k) g = orElse (lookD (.str k) kvs) fun v => .ok v g := by
  unfold getIx
  dsimp only
  rw [h]
theorem setSub_dK {g : G} {a : Nat} {kvs : List (D × D)} (h : g[a]? = some (.dK kvs)) (hl : kvs.length < line) (k : String) (v : D) : setSub (.ref a) (.str k) v g = .ok () (g.set a (.dK (putD (.str k) v kvs))) := by
  unfold setSub
  dsimp only
  rw [h]
  dsimp only
  rw [if_pos hl]
@[simp] theorem lookD_nil (k : D) : lookD k [] = none := rfl
theorem lookD_cons (k a v : D) (r : List (D × D)) : lookD k ((a, v) :: r) = if D.eqv a k then some v else lookD k r := rfl
@[simp] theorem lookD_str (k a : String) (v : D) (r : List (D × D)) : lookD (.str k) ((.str a, v) :: r) = if a = k then some v else lookD (.str k) r := by
  rw [lookD_cons, eqv_str]
  by_cases h : a = k <;> simp [h]
/-! ## Heaps: what is kept -/
theorem set_same {g : G} {a : Nat} {o : O} (h : g[a]? = some o) : g.set a o = g := by
  apply List.ext_getElem?
  intro j
  by_cases hj : j = a
  · subst hj
    rw [List.getElem?_set_self (get_lt h), h]
  · rw [List.getElem?_set_ne (Ne.symm hj)]
theorem set_set {g : G} {a : Nat} {o o' : O} : (g.set a o).set a o' = g.set a o' := List.set_set ..
theorem set_comm {g : G} {a b : Nat} {o o' : O} (h : a ≠ b) : (g.set a o).set b o' = (g.set b o').set a o := List.set_comm _ _ h
end UkW
end
section
set_option Elab.async false
set_option linter.all false
set_option maxRecDepth 100000
set_option autoImplicit false
set_option maxHeartbeats 1000000
namespace UkW
open Uk
open Mac (Wo Th Ot Nm Bs Pv Vl Wd Ts Sm Bk)
/-! ## Objects -/
@[simp] theorem wo_ok (w : Wo) : (woD w).ok = true := by cases w <;> rfl
@[simp] theorem wo_eqv (w u : Wo) : D.eqv (woD w) (woD u) = decide (w = u) := by
  cases w with
  | num i =>
    cases u with
    | num j => simp [woD]
    | odd => rfl
  | odd =>
    cases u with
    | num j => rfl
    | odd => rfl
@[simp] theorem wo_odd (w : Wo) : D.eqv (woD w) (.str "odd") = decide (w = .odd) := wo_eqv w .odd
@[simp] theorem odd_wo (w : Wo) : D.eqv (.str "odd") (woD w) = decide (Wo.odd = w) := wo_eqv .odd w
@[simp] theorem ot_ok (o : Ot) : (otD o).ok = true := by
  cases o with
  | none => rfl
  | some t => obtain ⟨w, m⟩ := t; cases w <;> rfl
@[simp] theorem th_ok (t : Th) : (thD t).ok = true := ot_ok (some t)
@[simp] theorem ot_eqv (x y : Ot) : D.eqv (otD x) (otD y) = decide (x = y) := by
  cases x with
  | none =>
    cases y with
    | none => rfl
    | some t => rfl
  | some t =>
    cases y with
    | none => rfl
    | some u =>
      obtain ⟨w, m⟩ := t
      obtain ⟨w', m'⟩ := u
      simp [otD, thD, D.eqv, D.eqvs, beq_dec]
@[simp] theorem ot_isNon (o : Ot) : (otD o).isNon = o.isNone := by cases o <;> rfl
@[simp] theorem otD_none : otD none = .non := rfl
@[simp] theorem otD_some (t : Th) : otD (some t) = thD t := rfl
theorem thD_eq (w : Wo) (m : Int) : thD (w, m) = .tup [woD w, .int m] := rfl
theorem fn_same : P.fn "" "are_same" = some d_are_same := by rfl
theorem fn_like : P.fn "" "are_like" = some d_are_like := by rfl
theorem fn_less : P.fn "" "is_less" = some d_is_less := by rfl
theorem fn_told : P.fn "" "told_of" = some d_told_of := by rfl
theorem con_odd : P.con "ODD" = some (.str "odd") := by rfl
theorem con_written : P.con "WRITTEN" = some (.int (-1)) := by rfl
theorem call_ok {n : Nat} {k f : String} {fd : FDef} (hf : P.fn k f = some fd) {args : List D} {g g' : G} {v : D} {δ : Env} (hl : args.length = fd.ps.length) (h : exs ⟨P, call P n, call P (n - 1), none⟩ fd.body (args.map some ++ List.replicate (fd.N.length - args.length) none) g = .ok (δ, .rt v) g') :
    call P (n + 1) k f args g = .ok v g' := by
  rw [call_fn hf]
  unfold runF
  rw [if_pos hl, h]
  rfl
theorem runF_eq {c : Cx} {fd : FDef} {args : List D} {g : G} (hl : args.length = fd.ps.length) : runF c fd args g = (exs c fd.body (args.map some ++ List.replicate (fd.N.length - args.length) none) g).bind fun z g => match z.2 with
    | .nx => .ok .non g
    | .rt d => .ok d g := if_pos hl
theorem same_ok (n : Nat) (x y : Ot) (g : G) : call P (n + 1) "" "are_same" [otD x, otD y] g = .ok (.bl (decide (x = y))) g := by
  refine call_ok fn_same rfl (δ := [some (otD x), some (otD y)]) ?_
  simp [d_are_same, exs, exe, ev, evs, eq_data]
theorem like_ok (n : Nat) (x y : Ot) (g : G) : call P (n + 1) "" "are_like" [otD x, otD y] g = .ok (.bl (Mac.like x y)) g := by
  refine call_ok fn_like rfl (δ := [some (otD x), some (otD y)]) ?_
  cases x with
  | none =>
    cases y <;> simp [d_are_like, exs, exe, ev, evs, Mac.like, thD]
  | some t =>
    obtain ⟨w, m⟩ := t
    cases y with
    | none => cases w <;> simp [d_are_like, exs, exe, ev, evs, Mac.like, thD]
    | some u =>
      obtain ⟨w', m'⟩ := u
      cases w <;> cases w' <;> simp [d_are_like, exs, exe, ev, evs, Mac.like, thD, con_odd, eq_data, ne_data, woD, beq_dec]
theorem oksB_2 {x y : D} (hx : x.ok = true) (hy : y.ok = true) : oksB [x, y] = true := by
  have h1 := of_decide_eq_true (show decide (x.dep ≤ 60) = true from hx)
  have h2 := of_decide_eq_true (show decide (y.dep ≤ 60) = true from hy)
  refine decide_eq_true ?_
  unfold D.deps D.deps D.deps
  omega
theorem in_tup (c : Cx) (g : G) {x y z : D} (hx : x.ok = true) (hy : y.ok = true) (hz : z.ok = true) : cmpop c .in_ x (.tup [y, z]) g = .ok (.bl (D.eqv y x || D.eqv z x)) g := by
  show orElse (inOp x (.tup [y, z]) g) _ = _
  unfold inOp
  dsimp only
  rw [hx, oksB_2 hy hz]
  simp
theorem less_ok (n : Nat) (x y : Ot) (g : G) : call P (n + 1) "" "is_less" [otD x, otD y] g = .ok (.bl (Mac.less x y)) g := by
  refine call_ok fn_less rfl (δ := [some (otD x), some (otD y)]) ?_
  cases x with
  | none =>
    cases y <;> simp [d_is_less, exs, exe, ev, evs, Mac.less, thD]
  | some t =>
    obtain ⟨w, m⟩ := t
    cases y with
    | none => cases w <;> simp [d_is_less, exs, exe, ev, evs, Mac.less, thD]
    | some u =>
      obtain ⟨w', m'⟩ := u
      cases w <;> cases w' <;> simp [d_is_less, exs, exe, ev, evs, Mac.less, thD, con_odd, woD, in_tup]
/-! ### what is told -/
def wordD : Option Wo → D
  | none => .str "none"
  | some w => woD w
def toldD (t : Option Wo × Option Wo × Bool) : D := .tup [wordD t.1, wordD t.2.1, .bl t.2.2]
theorem told_ok (n : Nat) (x y : Ot) (g : G) : Ok (call P (n + 2) "" "told_of" [otD x, otD y] g) fun v g' => v = toldD (Mac.told x y) ∧ Gr g g' := by
  refine body_run (n := n + 1) fn_told rfl ?_
  simp [d_told_of, exs, exe, ev, evs, evI]
  refine Ok.mono (comp_fm (xs := [otD x, otD y]) (fun d => some (match d with
    | .tup (w :: _) => w
    | _ => .str "none")) rfl items_tup (by simp) fun d hd g2 hg2 => ?_) fun _ g2 ⟨h1, h2⟩ => ?_
  · have hd : ∃ o : Ot, d = otD o := by
      simp at hd
      rcases hd with rfl | rfl
      · exact ⟨x, rfl⟩
      · exact ⟨y, rfl⟩
    obtain ⟨o, rfl⟩ := hd
    cases o with
    | none => simp [bindT, Uk.wipe]; exact .refl _
    | some t => simp [bindT, Uk.wipe, thD]; exact .refl _
  · have hw : ∀ o : Ot, (match otD o with
      | .tup (w :: _) => w
      | _ => .str "none") = wordD (Mac.wordOf o) := by
      intro o
      cases o with
      | none => rfl
      | some t => rfl
    simp only [List.filterMap_cons, List.filterMap_nil, hw] at h2
    simp [getIx_ref h2, same_ok]
    exact ⟨rfl, h1⟩
/-! ## Hands -/
def hO (d : Nat) (s : Mac.St) : O := .ins "Hands" [("held", .ref d), ("is_done", .bl s.over), ("lowest", .int s.low)]
def dO (s : Mac.St) : O := .dK [(.str "a", otD s.a), (.str "b", otD s.b)]
structure HandsAt (g : G) (h d : Nat) (s : Mac.St) : Prop where
  hands : g[h]? = some (hO d s)
  dict : g[d]? = some (dO s)
def putH (g : G) (h d : Nat) (s : Mac.St) : G := (g.set h (hO d s)).set d (dO s)
section
variable {g : G} {h d : Nat} {s : Mac.St}
theorem HandsAt.ne (q : HandsAt g h d s) : h ≠ d := fun e => by
  have a := q.hands
  have b := q.dict
  rw [e] at a
  rw [a] at b
  cases b
theorem HandsAt.put (q : HandsAt g h d s) (s' : Mac.St) : HandsAt (putH g h d s') h d s' := by
  refine ⟨?_, get_set (o := dO s) (set_ne q.dict (Ne.symm q.ne))⟩
  exact set_ne (get_set q.hands) q.ne
theorem HandsAt.same (q : HandsAt g h d s) : putH g h d s = g := by
  unfold putH
  rw [set_same q.hands, set_same q.dict]
theorem HandsAt.put_put (q : HandsAt g h d s) (s1 s2 : Mac.St) : putH (putH g h d s1) h d s2 = putH g h d s2 := by
  unfold putH
  rw [set_comm (Ne.symm q.ne), set_set, set_set]
theorem putH_ne {j : Nat} {o : O} (hj : j ≠ h) (hd : j ≠ d) (e : g[j]? = some o) (s : Mac.St) : (putH g h d s)[j]? = some o := set_ne (set_ne e hj) hd
theorem putH_len (g : G) (h d : Nat) (s : Mac.St) : (putH g h d s).length = g.length := by simp [putH]
theorem hands_cls : P.cls "Hands" = true := by rfl
theorem hands_f1 : P.fld "Hands" "held" = true := by rfl
theorem hands_f2 : P.fld "Hands" "is_done" = true := by rfl
theorem hands_f3 : P.fld "Hands" "lowest" = true := by rfl
theorem hands_p (f : String) : P.prop "Hands" f = false := by
  show (pd.prop.contains ("Hands", f)) = false
  simp [pd]
theorem HandsAt.held (q : HandsAt g h d s) (c1 c2 cu) : attr ⟨P, c1, c2, cu⟩ (.ref h) "held" g = .ok (.ref d) g := att_ref (c := ⟨P, c1, c2, cu⟩) q.hands hands_cls (hands_p _) hands_f1 rfl
theorem HandsAt.done (q : HandsAt g h d s) (c1 c2 cu) : attr ⟨P, c1, c2, cu⟩ (.ref h) "is_done" g = .ok (.bl s.over) g := att_ref (c := ⟨P, c1, c2, cu⟩) q.hands hands_cls (hands_p _) hands_f2 rfl
theorem HandsAt.lowest (q : HandsAt g h d s) (c1 c2 cu) : attr ⟨P, c1, c2, cu⟩ (.ref h) "lowest" g = .ok (.int s.low) g := att_ref (c := ⟨P, c1, c2, cu⟩) q.hands hands_cls (hands_p _) hands_f3 rfl
theorem HandsAt.setLow (q : HandsAt g h d s) (i : Int) : setFld P (.ref h) "lowest" (.int i) g = .ok () (putH g h d { s with low := i }) := by
  rw [fld_ref q.hands hands_cls hands_f3 (by simp [hO])]
  unfold putH
  have e : dO { s with low := i } = dO s := rfl
  rw [e, set_same (set_ne q.dict (Ne.symm q.ne))]
  rfl
theorem HandsAt.setDone (q : HandsAt g h d s) (i : Bool) : setFld P (.ref h) "is_done" (.bl i) g = .ok () (putH g h d { s with over := i }) := by
  rw [fld_ref q.hands hands_cls hands_f2 (by simp [hO])]
  unfold putH
  have e : dO { s with over := i } = dO s := rfl
  rw [e, set_same (set_ne q.dict (Ne.symm q.ne))]
  rfl
theorem HandsAt.setHeld (q : HandsAt g h d s) (x : Nm) (v : Ot) : setSub (.ref d) (.str (nmS x)) (otD v) g = .ok () (putH g h d (s.put x v)) := by
  rw [setSub_dK q.dict (by simp)]
  unfold putH
  have e : hO d (s.put x v) = hO d s := by cases x <;> rfl
  rw [e, set_same q.hands]
  cases x <;> rfl
theorem HandsAt.getHeld (q : HandsAt g h d s) (x : Nm) : getIx (.ref d) (.str (nmS x)) g = .ok (otD (s.get x)) g := by
  rw [getIx_dK q.dict]
  cases x <;> simp [nmS, Mac.St.get]
theorem kind_hands (q : HandsAt g h d s) {m : String} (hm : (P.fn "Hands" m).isSome = true) (h1 : m ≠ "held") (h2 : m ≠ "is_done") (h3 : m ≠ "lowest") : kindOf P (.ref h) m g = some (.ins "Hands") := by
  refine kind_ins q.hands ?_ hands_cls (hands_p _) hm
  simp [lookF, Ne.symm h1, Ne.symm h2, Ne.symm h3]
theorem fn_fresh : P.fn "Hands" "fresh" = some d_Hands_fresh := by rfl
theorem fn_value : P.fn "Hands" "value" = some d_Hands_value := by rfl
theorem fn_holds : P.fn "Hands" "holds" = some d_Hands_holds := by rfl
theorem fn_execute : P.fn "Hands" "execute" = some d_Hands_execute := by rfl
theorem fresh_ok (n : Nat) (q : HandsAt g h d s) (o : Ot) : call P (n + 1) "Hands" "fresh" [.ref h, otD o] g = .ok (otD (Mac.fresh o s).1) (putH g h d (Mac.fresh o s).2) := by
  refine call_ok fn_fresh rfl (δ := [some (.ref h), some (otD o)]) ?_
  cases o with
  | none =>
    simp [d_Hands_fresh, exs, exe, ev, evs, Mac.fresh]
    exact q.same.symm
  | some t =>
    obtain ⟨w, m⟩ := t
    simp [d_Hands_fresh, exs, exe, ev, evs, Mac.fresh, thD, q.lowest, q.setLow, (q.put { s with low := s.low - 1 }).lowest]
theorem value_bs (n : Nat) (q : HandsAt g h d s) (x : Bs) (i : Th) : call P (n + 1) "Hands" "value" [.ref h, bsD x, thD i] g = .ok (otD (x.val s i)) g := by
  cases x with
  | item =>
    refine call_ok fn_value rfl (δ := [some (.ref h), some (bsD .item), some (thD i), some (.str "item")]) ?_
    simp [d_Hands_value, exs, exe, ev, evs, bsD, Mac.Bs.val]
  | nm x =>
    refine call_ok fn_value rfl (δ := [some (.ref h), some (bsD (.nm x)), some (thD i), some (.str (nmS x))]) ?_
    have h1 : nmS x ≠ "item" := by cases x <;> decide
    have h2 : nmS x ≠ "none" := by cases x <;> decide
    have h3 : nmS x ≠ "at" := by cases x <;> decide
    have h4 : nmS x ≠ "copy" := by cases x <;> decide
    simp [d_Hands_value, exs, exe, ev, evs, bsD, Mac.Bs.val, h1, h2, h3, h4, q.held, q.getHeld]
theorem value_pv (n : Nat) (q : HandsAt g h d s) (x : Pv) (i : Th) : call P (n + 1) "Hands" "value" [.ref h, pvD x, thD i] g = .ok (otD (x.val s i)) g := by
  cases x with
  | bs x => exact value_bs n q x i
  | none =>
    refine call_ok fn_value rfl (δ := [some (.ref h), some (pvD .none), some (thD i), some (.str "none")]) ?_
    simp [d_Hands_value, exs, exe, ev, evs, pvD, Mac.Pv.val]
  | «at» k =>
    refine call_ok fn_value rfl (δ := [some (.ref h), some (pvD (.at k)), some (thD i), some (.str "at")]) ?_
    simp [d_Hands_value, exs, exe, ev, evs, pvD, Mac.Pv.val, con_written, thD, woD]
theorem value_ok (n : Nat) (q : HandsAt g h d s) (v : Vl) (i : Th) : call P (n + 2) "Hands" "value" [.ref h, vlD v, thD i] g = .ok (otD (v.val s i).1) (putH g h d (v.val s i).2) := by
  cases v with
  | pv v =>
    rw [show (Vl.val (.pv v) s i).2 = s from rfl, q.same]
    exact value_pv (n + 1) q v i
  | copy x =>
    refine call_ok fn_value rfl (δ := [some (.ref h), some (vlD (.copy x)), some (thD i), some (.str "copy")]) ?_
    have k1 := kind_hands q (m := "fresh") (by rfl) (by decide) (by decide) (by decide)
    have k2 := kind_hands q (m := "value") (by rfl) (by decide) (by decide) (by decide)
    simp [d_Hands_value, exs, exe, ev, evs, vlD, k1, k2, value_bs n q, fresh_ok n q, Mac.Vl.val]
theorem holds_t0 (n : Nat) (q : HandsAt g h d s) (w : Wd) (x y : Pv) (i : Th) : call P (n + 2) "Hands" "holds" [.ref h, t0D w x y, thD i] g = .ok (.bl (w.holds (x.val s i) (y.val s i))) g := by
  refine call_ok fn_holds rfl (δ := [some (.ref h), some (t0D w x y), some (thD i), some (.str (wdS w)), some (otD (x.val s i)), some (otD (y.val s i))]) ?_
  have k2 := kind_hands q (m := "value") (by rfl) (by decide) (by decide) (by decide)
  cases w with
  | same => simp [d_Hands_holds, exs, exe, ev, evs, t0D, wdS, k2, value_pv n q, same_ok, Mac.Wd.holds]
  | alike => simp [d_Hands_holds, exs, exe, ev, evs, t0D, wdS, k2, value_pv n q, like_ok, Mac.Wd.holds]
  | below => simp [d_Hands_holds, exs, exe, ev, evs, t0D, wdS, k2, value_pv n q, less_ok, Mac.Wd.holds]
  | in_ =>
    simp [d_Hands_holds, exs, exe, ev, evs, t0D, wdS, k2, value_pv n q, same_ok, like_ok, Mac.Wd.holds]
    by_cases e : x.val s i = y.val s i
    · simp [e]
    · simp [e]
theorem holds_ok (n : Nat) (q : HandsAt g h d s) (t : Ts) (i : Th) : call P (n + 3) "Hands" "holds" [.ref h, tsD t, thD i] g = .ok (.bl (t.holds s i)) g := by
  unfold tsD Mac.Ts.holds
  cases t.neg with
  | false =>
    simp
    exact holds_t0 (n + 1) q t.w t.x t.y i
  | true =>
    refine call_ok fn_holds rfl (δ := [some (.ref h), some (.tup [.str "not", t0D t.w t.x t.y]), some (thD i), some (.str "not"), none, none]) ?_
    have k2 := kind_hands q (m := "holds") (by rfl) (by decide) (by decide) (by decide)
    simp [d_Hands_holds, exs, exe, ev, evs, k2, holds_t0 n q]
end
end UkW
end
section
set_option Elab.async false
set_option linter.all false
set_option maxRecDepth 100000
set_option autoImplicit false
set_option maxHeartbeats 1000000
namespace UkW
open Uk
open Mac (Wo Th Ot Nm Bs Pv Vl Wd Ts Sm Bk)
/-! ## A block is executed -/
def exeBody : Ss := .c (.ife (.not_ (.att (.loc 0) "is_done")) (.c (.ife (.cmp .eq (.ix (.loc 3) (.cst (.int 0))) (.cst (.str "break"))) (.c (.fld (.loc 0) "is_done" (.cst (.bl true))) .n) (.c (.ife (.cmp .eq (.ix (.loc 3) (.cst (.int 0))) (.cst (.str "set"))) (.c (.sub (.att (.loc 0) "held") (.ix (.loc 3) (.cst (.int 1))) (.met (.loc 0) "value" (.c (.ix (.loc 3) (.cst (.int 2))) (.c (.loc 2) .n)))) .n)
  (.c (.ex (.met (.loc 0) "execute" (.c (.ite (.met (.loc 0) "holds" (.c (.ix (.loc 3) (.cst (.int 1))) (.c (.loc 2) .n))) (.ix (.loc 3) (.cst (.int 2))) (.ix (.loc 3) (.cst (.int 3)))) (.c (.loc 2) .n)))) .n)) .n)) .n) .n) .n
theorem exe_body : d_Hands_execute.body = .c (.for_ (.one 3) (.seq (.loc 1)) exeBody) .n := by rfl
def runS (t : Sm) (i : Th) (s : Mac.St) : Mac.St := if s.over then s else t.run i s
theorem run_cons (t : Sm) (b : Bk) (i : Th) (s : Mac.St) : (Bk.cons t b).run i s = b.run i (runS t i s) := by
  unfold runS
  rw [Bk.run]
  cases h : s.over with
  | true => simp [Mac.Bk.run_over b i h]
  | false => simp
theorem stm_ok {k N : Nat} (hN : 3 ≤ N) (c1 : String → String → List D → G → R D) (rec_ : ∀ k', k = k' + 1 → ∀ (b : Bk), bkOk k' b → ∀ (g : G) (h d : Nat) (s : Mac.St) (i : Th), HandsAt g h d s → call P N "Hands" "execute" [.ref h, .tup (bkD b), thD i] g = .ok .non (putH g h d (b.run i s)))
    {t : Sm} (ht : smOk k t) {g : G} {h d : Nat} {s : Mac.St} (q : HandsAt g h d s) (x : Option D) (i : Th) :
    exs ⟨P, call P N, c1, none⟩ exeBody [some (.ref h), x, some (thD i), some (smD t)] g = .ok ([some (.ref h), x, some (thD i), some (smD t)], .nx) (putH g h d (runS t i s)) := by
  cases ho : s.over with
  | true =>
    have e : runS t i s = s := by unfold runS; rw [if_pos ho]
    rw [e, q.same]
    simp [exeBody, exs, exe, ev, q.done, ho]
  | false =>
    have e : runS t i s = t.run i s := by unfold runS; rw [if_neg (by simp [ho])]
    rw [e]
    obtain ⟨N, rfl⟩ : ∃ m, N = m + 3 := ⟨N - 3, by omega⟩
    cases t with
    | brk => simp [exeBody, exs, exe, ev, q.done, ho, smD, q.setDone, Mac.Sm.run]
    | set y v =>
      have k2 := kind_hands q (m := "value") (by rfl) (by decide) (by decide) (by decide)
      have q2 := q.put (v.val s i).2
      simp [exeBody, exs, exe, ev, evs, q.done, ho, smD, k2, value_ok (N + 1) q, q2.held, q2.setHeld, Mac.Sm.run, q.put_put]
    | ifs t y n =>
      unfold smOk at ht
      obtain ⟨h1, j, rfl, h2, h3, h4, h5⟩ := ht
      have k2 := kind_hands q (m := "execute") (by rfl) (by decide) (by decide) (by decide)
      have k3 := kind_hands q (m := "holds") (by rfl) (by decide) (by decide) (by decide)
      have ry := rec_ j rfl y h4 g h d s i q
      have rn := rec_ j rfl n h5 g h d s i q
      cases hh : t.holds s i with
      | true => simp [exeBody, exs, exe, ev, evs, q.done, ho, smD, k2, k3, holds_ok N q, hh, ry, Mac.Sm.run]
      | false => simp [exeBody, exs, exe, ev, evs, q.done, ho, smD, k2, k3, holds_ok N q, hh, rn, Mac.Sm.run]
theorem blk_walk {k N : Nat} (hN : 3 ≤ N) (c1 : String → String → List D → G → R D) (rec_ : ∀ k', k = k' + 1 → ∀ (b : Bk), bkOk k' b → ∀ (g : G) (h d : Nat) (s : Mac.St) (i : Th), HandsAt g h d s → call P N "Hands" "execute" [.ref h, .tup (bkD b), thD i] g = .ok .non (putH g h d (b.run i s))) :
    ∀ (b : Bk), bkOk k b → ∀ (g : G) (h d : Nat) (s : Mac.St) (x y : Option D) (i : Th), HandsAt g h d s → ∃ y', walkT (.one 3) (exs ⟨P, call P N, c1, none⟩ exeBody) (bkD b) [some (.ref h), x, some (thD i), y] g = .ok ([some (.ref h), x, some (thD i), y'], .nx) (putH g h d (b.run i s))
  | .nil, _, g, h, d, s, x, y, i, q => ⟨y, by rw [Mac.Bk.run, q.same]; rfl⟩
  | .cons t b, hb, g, h, d, s, x, y, i, q => by
    unfold bkOk at hb
    obtain ⟨y', e⟩ := blk_walk hN c1 rec_ b hb.2 _ h d _ x (some (smD t)) i (q.put (runS t i s))
    refine ⟨y', ?_⟩
    rw [run_cons]
    show walkT _ _ (smD t :: bkD b) _ _ = _
    rw [walkT_cons]
    have e0 : bindT (.one 3) (smD t) [some (.ref h), x, some (thD i), y] = some [some (.ref h), x, some (thD i), some (smD t)] := rfl
    rw [e0]
    dsimp only
    rw [stm_ok hN c1 rec_ hb.1 q x i]
    show walkT _ _ (bkD b) [some (.ref h), x, some (thD i), some (smD t)] (putH g h d (runS t i s)) = _
    rw [e, q.put_put]
theorem execute_ok : ∀ (k : Nat) (n : Nat) (b : Bk), bkOk k b → ∀ (g : G) (h d : Nat) (s : Mac.St) (i : Th), HandsAt g h d s → call P (n + k + 4) "Hands" "execute" [.ref h, .tup (bkD b), thD i] g = .ok .non (putH g h d (b.run i s)) := by
  intro k
  induction k with
  | zero =>
    intro n b hb g h d s i q
    obtain ⟨y', e⟩ := blk_walk (k := 0) (N := n + 3) (by omega) (call P (n + 3 - 1)) (fun k' e => by omega) b hb g h d s (some (.tup (bkD b))) none i q
    rw [call_fn (n := n + 3) fn_execute]
    rw [runF_eq (by rfl), exe_body]
    simp [exs, exe, ev, evI]
    show ((walkT (.one 3) (exs ⟨P, call P (n + 3), call P (n + 3 - 1), none⟩ exeBody) (bkD b) [some (.ref h), some (.tup (bkD b)), some (thD i), none] g).bind _).bind _ = _
    rw [e]
    rfl
  | succ k ih =>
    intro n b hb g h d s i q
    obtain ⟨y', e⟩ := blk_walk (k := k + 1) (N := n + (k + 1) + 3) (by omega) (call P (n + (k + 1) + 3 - 1)) (fun k' e b' hb' g h d s i q => by
      obtain rfl : k' = k := by omega
      have := ih n b' hb' g h d s i q
      rw [show n + (k' + 1) + 3 = n + k' + 4 from by omega]
      exact this) b hb g h d s (some (.tup (bkD b))) none i q
    rw [call_fn (n := n + (k + 1) + 3) fn_execute]
    rw [runF_eq (by rfl), exe_body]
    simp [exs, exe, ev, evI]
    show ((walkT (.one 3) (exs ⟨P, call P (n + (k + 1) + 3), call P (n + (k + 1) + 3 - 1), none⟩ exeBody) (bkD b) [some (.ref h), some (.tup (bkD b)), some (thD i), none] g).bind _).bind _ = _
    rw [e]
    rfl
/-! ## The least mark -/
theorem fn_least : P.fn "" "least_mark" = some d_least_mark := by rfl
theorem minI_fold : ∀ (ms : List Int) (x : Int), minI (x :: ms) = ms.foldl min x
  | [], x => rfl
  | [y], x => rfl
  | y :: z :: ms, x => by
    show min x (minI (y :: z :: ms)) = _
    rw [minI_fold (z :: ms) y]
    have fold_min : ∀ (l : List Int) (a b : Int), min a (l.foldl min b) = l.foldl min (min a b) := by
      intro l
      induction l with
      | nil => intro a b; rfl
      | cons c l ih =>
        intro a b
        show min a (l.foldl min (min b c)) = l.foldl min (min (min a b) c)
        rw [ih, Int.min_assoc]
    show min x ((z :: ms).foldl min y) = (z :: ms).foldl min (min x y)
    exact fold_min _ _ _
def marksOf (l : List Ot) : List Int := l.filterMap fun o => o.map (·.2)
theorem least_marks : ∀ (l : List Ot) (m : Int), (marksOf l).foldl min m = l.foldl (fun m o => match o with
    | some (_, k) => min m k
    | none => m) m
  | [], m => rfl
  | none :: l, m => by
    show (marksOf l).foldl min m = _
    rw [least_marks l m]
    rfl
  | some (w, k) :: l, m => by
    show (marksOf l).foldl min (min m k) = _
    rw [least_marks l (min m k)]
    rfl
theorem leastMark_eq (l : List Ot) : Mac.leastMark l = minI (-1 :: marksOf l) := by
  rw [minI_fold, least_marks]
  rfl
theorem intsD_map : ∀ l : List Int, intsD (l.map D.int) = some l
  | [] => rfl
  | i :: l => by
    show (intsD (l.map D.int)).map (i :: ·) = _
    rw [intsD_map l]
    rfl
theorem min_ref {c : Cx} {g : G} {a : Nat} {i : Int} {is : List Int} (h : g[a]? = some (.lst (.int i :: is.map D.int))) : builtin c .min [.ref a] g = .ok (.int (minI (i :: is))) g := by
  show orElse ((lsOf g a).bind intsD) _ = _
  rw [lsOf_eq h]
  show orElse (intsD ((i :: is).map D.int)) _ = _
  rw [intsD_map]
  rfl
theorem least_ok (n : Nat) (g : G) (j : Nat) (l : List Ot) (hl : l.length < 1000) (hj : g[j]? = some (.lst (l.map otD))) : Ok (call P (n + 1) "" "least_mark" [.ref j] g) fun v g' => v = .int (Mac.leastMark l) ∧ Gr g g' := by
  refine body_run fn_least rfl ?_
  have hj2 : (g ++ [O.lst [.int (-1)]])[j]? = some (.lst (l.map otD)) := get_app hj _
  simp [d_least_mark, exs, exe, ev, evs, evI, con_written, walk_ref hj2]
  refine Ok.mono (comp_fm2 (g ++ [O.lst [.int (-1)]]) (by simp) (by simp) (xs := l.map otD) (fun d => match d with
    | .tup (_ :: m :: _) => some m
    | _ => none) (by simp) (items_ref hj2) (by simp; omega) fun d hd g2 hg2 => ?_) fun _ g2 ⟨h1, h2⟩ => ?_
  · obtain ⟨o, _, rfl⟩ := List.mem_map.mp hd
    cases o with
    | none => simp [bindT, Uk.wipe]; exact .refl _
    | some t => simp [bindT, Uk.wipe, thD]; exact .refl _
  · have e : (l.map otD).filterMap (fun d => match d with
      | .tup (_ :: m :: _) => some m
      | _ => none) = (marksOf l).map D.int := by
      unfold marksOf
      rw [List.filterMap_map, List.map_filterMap]
      congr 1
      funext o
      cases o with
      | none => rfl
      | some t => rfl
    rw [e] at h2
    have h3 := h1.get (get_new g (.lst [.int (-1)]))
    have e4 : (g ++ [O.lst [.int (-1)]]).length = g.length + 1 := by simp
    rw [e4] at h2
    have lm : (marksOf l).length ≤ l.length := List.length_filterMap_le _ _
    have hA := add_ref h3 h2
    have hL : newL ([D.int (-1)] ++ (marksOf l).map D.int) g2 = .ok (.ref g2.length) (g2 ++ [.lst ([D.int (-1)] ++ (marksOf l).map D.int)]) := newL_ok (by simp; omega) _
    rw [hL] at hA
    have hm : ∀ c, builtin c .min [.ref g2.length] (g2 ++ [.lst (.int (-1) :: (marksOf l).map D.int)]) = .ok (.int (minI (-1 :: marksOf l))) (g2 ++ [.lst (.int (-1) :: (marksOf l).map D.int)]) := fun c => min_ref (get_new g2 _)
    simp [hA, hm]
    exact ⟨by rw [leastMark_eq], ((Gr.app g _).trans h1).trans (.app _ _)⟩
/-! ## Steps -/
def stD (s : Mac.State) : D := .tup [otD s.1, otD s.2.1, .bl s.2.2]
def PlanAt (g : G) (p : Nat) (pl : Mac.Plan) : Prop := g[p]? = some (.ins "Plan" [("block_told", .tup (bkD pl.blk)), ("is_copying", .bl pl.cop), ("is_skipping", .bl pl.skp)])
theorem fn_hinit : P.fn "Hands" "__init__" = some d_HandsU_initU := by rfl
theorem fn_step : P.fn "" "step" = some d_step := by rfl
theorem putD_one (k : String) (v w : D) (k2 : String) (h : k ≠ k2) : putD (.str k2) w [(.str k, v)] = [(.str k, v), (.str k2, w)] := by
  unfold putD
  simp [h]
theorem hands_make (n : Nat) (f1 : String → String → List D → G → R D) (cu : Option Exn) (a b : Ot) (g : G) : ∃ g', make ⟨P, f1, call P (n + 1), cu⟩ "Hands" [otD a, otD b, .bl false] g = .ok (.ref g.length) g' ∧ Gr g g' ∧ HandsAt g' g.length (g.length + 1) ⟨a, b, false, -1⟩ := by
  let g1 : G := g ++ [.ins "Hands" []]
  let g2 : G := g1 ++ [.dK []]
  have e2 : g2[g1.length]? = some (.dK []) := get_new _ _
  have hl : g1.length = g.length + 1 := by simp [g1]
  have e1 : g2[g.length]? = some (.ins "Hands" []) := get_app (get_new g _) _
  let g3 := g2.set g1.length (dO ⟨a, b, false, -1⟩)
  have e3 : g3[g.length]? = some (.ins "Hands" []) := set_ne e1 (by omega)
  have m1 : mkD g1.length [.str "a", otD a, .str "b", otD b] g2 = .ok (.ref g1.length) g3 := by
    unfold mkD
    rw [e2]
    dsimp only
    rw [if_pos ⟨rfl, by simp⟩]
    have : mergeD [] [.str "a", otD a, .str "b", otD b] = some [(.str "a", otD a), (.str "b", otD b)] := by
      show mergeD (putD (.str "b") (otD b) [(.str "a", otD a)]) [] = _
      rw [putD_one _ _ _ _ (by decide)]
      rfl
    rw [this]
    rfl
  let g4 := g3.set g.length (.ins "Hands" [("held", .ref g1.length)])
  have s1 : setFld P (.ref g.length) "held" (.ref g1.length) g3 = .ok () g4 := fld_ref e3 hands_cls hands_f1 (by simp) _
  have e4 : g4[g.length]? = some (.ins "Hands" [("held", .ref g1.length)]) := get_set e3
  let g5 := g4.set g.length (.ins "Hands" [("held", .ref g1.length), ("is_done", .bl false)])
  have s2 : setFld P (.ref g.length) "is_done" (.bl false) g4 = .ok () g5 := fld_ref e4 hands_cls hands_f2 (by simp) _
  have e5 : g5[g.length]? = some (.ins "Hands" [("held", .ref g1.length), ("is_done", .bl false)]) := get_set e4
  let g6 := g5.set g.length (.ins "Hands" [("held", .ref g1.length), ("is_done", .bl false), ("lowest", .int (-1))])
  have s3 : setFld P (.ref g.length) "lowest" (.int (-1)) g5 = .ok () g6 := fld_ref e5 hands_cls hands_f3 (by simp) _
  have main : call P (n + 1) "Hands" "__init__" [.ref g.length, otD a, otD b, .bl false] g1 = .ok .non g6 := by
    rw [call_fn fn_hinit]
    rw [runF_eq (by rfl)]
    have m1 : mkD g1.length [.str "a", otD a, .str "b", otD b] (g1 ++ [.dK []]) = .ok (.ref g1.length) g3 := m1
    generalize hg1 : g1 = x1 at m1 s1
    simp [d_HandsU_initU, exs, exe, ev, evs, evP, m1, s1, s2, s3, con_written]
  refine ⟨g6, ?_, ?_, ?_, ?_⟩
  · unfold make
    rw [if_pos hands_cls]
    show ((call P (n + 1) "Hands" "__init__" [.ref g.length, otD a, otD b, .bl false] g1).bind _) = _
    rw [main]
    rfl
  · have : Gr g g2 := (Gr.app g _).trans (.app _ _)
    exact (((this.set (by omega) _).set (Nat.le_refl _) _).set (Nat.le_refl _) _).set (Nat.le_refl _) _
  · show g6[g.length]? = some (.ins "Hands" [("held", .ref (g.length + 1)), ("is_done", .bl false), ("lowest", .int (-1))])
    rw [get_set e5, hl]
  · rw [← hl]
    exact set_ne (set_ne (set_ne (get_set e2) (by omega)) (by omega)) (by omega)
theorem plan_cls : P.cls "Plan" = true := by rfl
theorem plan_p (f : String) : P.prop "Plan" f = false := by
  show (pd.prop.contains ("Plan", f)) = false
  simp [pd]
section
variable {g : G} {p : Nat} {pl : Mac.Plan}
theorem PlanAt.mono {g' : G} (h : PlanAt g p pl) (k : Gr g g') : PlanAt g' p pl := k.get h
theorem PlanAt.blk (h : PlanAt g p pl) (c1 c2 cu) : attr ⟨P, c1, c2, cu⟩ (.ref p) "block_told" g = .ok (.tup (bkD pl.blk)) g := att_ref (c := ⟨P, c1, c2, cu⟩) h plan_cls (plan_p _) (by rfl) rfl
theorem PlanAt.cop (h : PlanAt g p pl) (c1 c2 cu) : attr ⟨P, c1, c2, cu⟩ (.ref p) "is_copying" g = .ok (.bl pl.cop) g := att_ref (c := ⟨P, c1, c2, cu⟩) h plan_cls (plan_p _) (by rfl) rfl
theorem PlanAt.skp (h : PlanAt g p pl) (c1 c2 cu) : attr ⟨P, c1, c2, cu⟩ (.ref p) "is_skipping" g = .ok (.bl pl.skp) g := att_ref (c := ⟨P, c1, c2, cu⟩) h plan_cls (plan_p _) (by rfl) rfl
theorem step_ok (n : Nat) (h : PlanAt g p pl) (hb : bkOk 2 pl.blk) (st : Mac.State) (i : Th) {j : Nat} {l : List Ot} (hl : l.length < 900) (hj : g[j]? = some (.lst (l.map otD))) :
    Ok (call P (n + 7) "" "step" [.ref p, stD st, thD i, .ref j] g) fun v g' => v = stD (pl.step st i l) ∧ Gr g g' := by
  obtain ⟨a, b, ov⟩ := st
  refine body_run (n := n + 6) fn_step rfl ?_
  have hu : setAll [some (.ref p), some (stD (a, b, ov)), some (thD i), some (.ref j), none, none, none, none] [4, 5, 6] [otD a, otD b, .bl ov] = some [some (.ref p), some (stD (a, b, ov)), some (thD i), some (.ref j), some (otD a), some (otD b), some (.bl ov), none] := rfl
  have hs : stD (a, b, ov) = .tup [otD a, otD b, .bl ov] := rfl
  have hi0 : getIx (thD i) (.int 0) g = .ok (woD i.1) g := by simp [thD]
  have hP : (ov || (pl.skp && i.1 == .odd)) = true ∨ (ov = false ∧ (pl.skp && i.1 == .odd) = false) := by
    cases ov <;> cases (pl.skp && i.1 == .odd) <;> simp
  generalize hT : (Ss.c (.asg 7 (.mk "Hands" (.c (.loc 4) (.c (.loc 5) (.c (.cst (.bl false)) .n)))))
 (.c (.fld (.loc 7) "lowest" (.call "least_mark" (.c (.bin .add (.lst (.c (.loc 4) (.c (.loc 5) (.c (.loc 2) .n)))) (.bi .list (.c (.loc 3) .n))) .n)))
 (.c (.ex (.met (.loc 7) "execute" (.c (.att (.loc 0) "block_told") (.c (.ite (.att (.loc 0) "is_copying") (.met (.loc 7) "fresh" (.c (.loc 2) .n)) (.loc 2)) .n))))
 (.c (.ret (.tup (.c (.ix (.att (.loc 7) "held") (.cst (.str "a"))) (.c (.ix (.att (.loc 7) "held") (.cst (.str "b"))) (.c (.att (.loc 7) "is_done") .n))))) .n)))) = T
  have hbody : d_step.body = .c (.unp [4, 5, 6] (.loc 1)) (.c (.ife (.or_ (.loc 6) (.and_ (.att (.loc 0) "is_skipping") (.cmp .eq (.ix (.loc 2) (.cst (.int 0))) (.glo "ODD")))) (.c (.ret (.loc 1)) .n) .n) T) := by rw [← hT]; rfl
  rw [hbody]
  have hskip : (ov || (pl.skp && i.1 == .odd)) = true → Mac.Plan.step pl (a, b, ov) i l = (a, b, ov) := fun e => by
    unfold Mac.Plan.step
    rw [if_pos e]
  rw [show (List.map some [D.ref p, stD (a, b, ov), thD i, .ref j] ++ List.replicate (d_step.N.length - [D.ref p, stD (a, b, ov), thD i, .ref j].length) none) = [some (.ref p), some (stD (a, b, ov)), some (thD i), some (.ref j), none, none, none, none] from rfl]
  rcases hP with hP | ⟨rfl, hP⟩
  · rw [hskip hP]
    cases ov with
    | true => simp [exs, exe, ev, evs, hs, setAll]; exact .refl _
    | false =>
      simp at hP
      simp [exs, exe, ev, evs, hs, setAll, h.skp, hP.1, hi0, con_odd, eq_data, hP.2]
      exact .refl _
  · have cond : ev ⟨P, call P (n + 6), call P (n + 6 - 1), none⟩ (.or_ (.loc 6) (.and_ (.att (.loc 0) "is_skipping") (.cmp .eq (.ix (.loc 2) (.cst (.int 0))) (.glo "ODD")))) [some (.ref p), some (stD (a, b, false)), some (thD i), some (.ref j), some (otD a), some (otD b), some (.bl false), none] g = .ok (.bl false) g := by
      simp [ev, h.skp, hi0, con_odd, eq_data]
      cases hk : pl.skp with
      | false => rfl
      | true =>
        rw [hk] at hP
        simp at hP
        simp [hP]
    have e0 : exs ⟨P, call P (n + 6), call P (n + 6 - 1), none⟩ (.c (.unp [4, 5, 6] (.loc 1)) (.c (.ife (.or_ (.loc 6) (.and_ (.att (.loc 0) "is_skipping") (.cmp .eq (.ix (.loc 2) (.cst (.int 0))) (.glo "ODD")))) (.c (.ret (.loc 1)) .n) .n) T)) [some (.ref p), some (stD (a, b, false)), some (thD i), some (.ref j), none, none, none, none] g =
        exs ⟨P, call P (n + 6), call P (n + 6 - 1), none⟩ T [some (.ref p), some (stD (a, b, false)), some (thD i), some (.ref j), some (otD a), some (otD b), some (.bl false), none] g := by
      show ((exe _ (.unp [4, 5, 6] (.loc 1)) _ g).bind _) = _
      have e1 : exe ⟨P, call P (n + 6), call P (n + 6 - 1), none⟩ (.unp [4, 5, 6] (.loc 1)) [some (.ref p), some (stD (a, b, false)), some (thD i), some (.ref j), none, none, none, none] g = .ok ([some (.ref p), some (stD (a, b, false)), some (thD i), some (.ref j), some (otD a), some (otD b), some (.bl false), none], .nx) g := rfl
      rw [e1]
      show ((exe _ (.ife _ _ _) [some (.ref p), some (stD (a, b, false)), some (thD i), some (.ref j), some (otD a), some (otD b), some (.bl false), none] g).bind _) = _
      rw [exe, cond]
      rfl
    rw [e0, ← hT]
    obtain ⟨g1, m1, gr1, q1⟩ := hands_make (n + 4) (call P (n + 6)) none a b g
    rw [show n + 4 + 1 = n + 6 - 1 from by omega] at m1
    have hj1 := gr1.get hj
    let L1 : List D := [otD a, otD b, thD i]
    let g2 := g1 ++ [.lst L1]
    let g3 := g2 ++ [.lst (l.map otD)]
    have b1 : builtin ⟨P, call P (n + 6), call P (n + 6 - 1), none⟩ .list [.ref j] g2 = .ok (.ref g2.length) g3 := by
      show orElse (lsOf g2 j) _ = _
      rw [lsOf_eq (get_app hj1 _)]
      exact newL_ok (by simp; omega) _
    have a1 : binop .add (.ref g1.length) (.ref g2.length) g3 = newL (L1 ++ l.map otD) g3 := add_ref (get_app (get_new g1 (.lst L1)) _) (get_new g2 _)
    have eL : L1 ++ l.map otD = (a :: b :: some i :: l).map otD := rfl
    rw [eL] at a1
    have n1 : newL ((a :: b :: some i :: l).map otD) g3 = .ok (.ref g3.length) (g3 ++ [.lst ((a :: b :: some i :: l).map otD)]) := newL_ok (by simp; omega) _
    rw [n1] at a1
    obtain ⟨v, g5, e5, rfl, gr5⟩ := (least_ok (n + 5) (g3 ++ [.lst ((a :: b :: some i :: l).map otD)]) g3.length (a :: b :: some i :: l) (by simp; omega) (get_new _ _)).to
    have gr15 : Gr g1 g5 := (((Gr.app g1 _).trans (.app _ _)).trans (.app _ _)).trans gr5
    have q5 : HandsAt g5 g.length (g.length + 1) ⟨a, b, false, -1⟩ := ⟨gr15.get q1.hands, gr15.get q1.dict⟩
    have s5 := q5.setLow (Mac.leastMark (a :: b :: some i :: l))
    generalize hlow : Mac.leastMark (a :: b :: some i :: l) = low at e5 s5
    have q6 := q5.put ⟨a, b, false, low⟩
    have grA : Gr g g5 := gr1.trans gr15
    have gr6 : Gr g (putH g5 g.length (g.length + 1) ⟨a, b, false, low⟩) := (grA.set (Nat.le_refl _) _).set (by omega) _
    have p6 := h.mono gr6
    generalize hg6 : putH g5 g.length (g.length + 1) ⟨a, b, false, low⟩ = g6 at q6 gr6 p6
    have s5 : setFld P (.ref g.length) "lowest" (.int low) g5 = .ok () g6 := by rw [← hg6]; exact s5
    have kx := kind_hands q6 (m := "execute") (by rfl) (by decide) (by decide) (by decide)
    have kf := kind_hands q6 (m := "fresh") (by rfl) (by decide) (by decide) (by decide)
    -- the item, or its copy
    let r := if pl.cop then Mac.fresh (some i) ⟨a, b, false, low⟩ else (some i, (⟨a, b, false, low⟩ : Mac.St))
    obtain ⟨i2, s2, hr⟩ : ∃ i2 s2, r = (some i2, s2) := by
      show ∃ i2 s2, (if pl.cop then Mac.fresh (some i) ⟨a, b, false, low⟩ else (some i, (⟨a, b, false, low⟩ : Mac.St))) = (some i2, s2)
      cases pl.cop with
      | false => exact ⟨i, _, rfl⟩
      | true => exact ⟨_, _, rfl⟩
    have fr := fresh_ok (n + 5) q6 (some i)
    have q7 := q6.put s2
    have gr7 : Gr g (putH g6 g.length (g.length + 1) s2) := (gr6.set (Nat.le_refl _) _).set (by omega) _
    have ex := execute_ok 2 n pl.blk hb _ _ _ _ i2 q7
    have q8 := q7.put (pl.blk.run i2 s2)
    have gr8 : Gr g (putH (putH g6 g.length (g.length + 1) s2) g.length (g.length + 1) (pl.blk.run i2 s2)) := (gr7.set (Nat.le_refl _) _).set (by omega) _
    have hstep : Mac.Plan.step pl (a, b, false) i l = ((pl.blk.run i2 s2).a, (pl.blk.run i2 s2).b, (pl.blk.run i2 s2).over) := by
      unfold Mac.Plan.step
      rw [if_neg (by simpa using hP)]
      dsimp only
      rw [hlow]
      show (((pl.blk.run (r.1.getD i) r.2).a, (pl.blk.run (r.1.getD i) r.2).b, (pl.blk.run (r.1.getD i) r.2).over) : Mac.State) = _
      rw [hr]
      rfl
    have ga : getIx (.ref (g.length + 1)) (.str "a") (putH (putH g6 g.length (g.length + 1) s2) g.length (g.length + 1) (pl.blk.run i2 s2)) = _ := q8.getHeld .a
    have gb : getIx (.ref (g.length + 1)) (.str "b") (putH (putH g6 g.length (g.length + 1) s2) g.length (g.length + 1) (pl.blk.run i2 s2)) = _ := q8.getHeld .b
    generalize hg8 : putH (putH g6 g.length (g.length + 1) s2) g.length (g.length + 1) (pl.blk.run i2 s2) = g8 at ex q8 gr8 ga gb
    have ex : call P (n + 6) "Hands" "execute" [.ref g.length, .tup (bkD pl.blk), thD i2] (putH g6 g.length (g.length + 1) s2) = .ok .non g8 := ex
    have p7 : (pl.cop = false ∧ i2 = i ∧ putH g6 g.length (g.length + 1) s2 = g6) ∨ (pl.cop = true ∧ call P (n + 6) "Hands" "fresh" [.ref g.length, thD i] g6 = .ok (thD i2) (putH g6 g.length (g.length + 1) s2)) := by
      have hr' : (if pl.cop then Mac.fresh (some i) ⟨a, b, false, low⟩ else (some i, (⟨a, b, false, low⟩ : Mac.St))) = (some i2, s2) := hr
      cases hc : pl.cop with
      | false =>
        rw [hc] at hr'
        simp at hr'
        obtain ⟨rfl, rfl⟩ := hr'
        exact .inl ⟨rfl, rfl, q6.same⟩
      | true =>
        rw [hc] at hr'
        simp at hr'
        rw [hr'] at fr
        exact .inr ⟨rfl, fr⟩
    have n3 : newL [otD a, otD b, thD i] g1 = .ok (.ref g1.length) g2 := newL_3 _ _ _ _
    have b1 : builtin ⟨P, call P (n + 6), call P (n + 6 - 1), none⟩ .list [.ref j] g2 = .ok (.ref g2.length) g3 := b1
    have e5 : call P (n + 6) "" "least_mark" [.ref g3.length] (g3 ++ [.lst ((a :: b :: some i :: l).map otD)]) = .ok (.int low) g5 := e5
    generalize hg4 : g3 ++ [O.lst ((a :: b :: some i :: l).map otD)] = g4 at a1 e5
    generalize hg3 : g3 = y3 at a1 e5 b1
    generalize hg2 : g2 = y2 at a1 b1 n3
    rw [hstep]
    refine Ok.mono (Q := fun z g' => z.2 = .rt (stD ((pl.blk.run i2 s2).a, (pl.blk.run i2 s2).b, (pl.blk.run i2 s2).over)) ∧ g' = g8) ?_ ?_
    · simp only [exs, exe, evs, ev, bind_ok, List.getElem?_cons_zero, List.getElem?_cons_succ, m1, n3, b1, a1, e5, s5, List.set_cons_zero, List.set_cons_succ]
      rcases p7 with ⟨hc, rfl, hpp⟩ | ⟨hc, hfr⟩
      · rw [hpp] at ex
        simp [kx, p6.blk, p6.cop, hc, ex, q8.held, ga, gb, q8.done]
        rfl
      · simp [kx, p6.blk, p6.cop, hc, kf, hfr, ex, q8.held, ga, gb, q8.done]
        rfl
    · rintro ⟨e, f⟩ _ ⟨hz, rfl⟩
      have hz : f = _ := hz
      subst hz
      exact ⟨rfl, gr8⟩
end
end UkW
end
section
set_option autoImplicit false
set_option linter.all false
namespace Mac
/-! ## Runs: the program's, and those of a law -/
def runM (p : Plan) (items : List Th) : State := items.foldl (fun st i => p.step st i []) start
def toldM (s : State) : Option Wo × Option Wo × Bool := told s.1 s.2.1
/-- how a law takes items -/
inductive Man where | item | one | copy | left
  deriving DecidableEq, Repr
def oneMark : Int := 1000000000
def lawTake (b : Bk) (m : Man) (i : Th) (s : St) : St := match m with
  | .item => b.run i s
  | .one => b.run (i.1, oneMark) s
  | .copy => let r := fresh (some i) s; b.run (r.1.getD i) r.2
  | .left => if i.1 = .odd then s else b.run i s
def begin0 : St := ⟨none, none, false, -1⟩
def lawRun (b : Bk) (m : Man) (items : List Th) : St := items.foldl (fun s i => lawTake b m i s) begin0
def St.told (s : St) : Option Wo × Option Wo × Bool := Mac.told s.a s.b
theorem foldl_le {l : List Ot} : ∀ {m : Int}, l.foldl (fun m o => match o with
  | some (_, k) => min m k
  | none => m) m ≤ m := by
  induction l with
  | nil => intro m; exact Int.le_refl _
  | cons o l ih =>
    intro m
    cases o with
    | none => exact ih
    | some t => exact Int.le_trans (ih (m := min m t.2)) (Int.min_le_left _ _)
theorem least_le {l : List Ot} : ∀ {m : Int} {w : Wo} {k : Int}, some (w, k) ∈ l → l.foldl (fun m o => match o with
  | some (_, k) => min m k
  | none => m) m ≤ k := by
  induction l with
  | nil => intro m w k h; cases h
  | cons o l ih =>
    intro m w k h
    rcases List.mem_cons.mp h with e | e
    · subst e
      exact Int.le_trans (foldl_le (m := min m k)) (Int.min_le_right _ _)
    · exact ih e
theorem leastMark_le {l : List Ot} {w : Wo} {k : Int} (h : some (w, k) ∈ l) : leastMark l ≤ k := least_le h
theorem leastMark_neg {l : List Ot} : leastMark l ≤ -1 := foldl_le
/-- program's state and a law's, up to names of copies; Φ pairs the items' marks -/
structure Sim (Φ : Int → Int → Prop) (x : State) (s : St) : Prop where
  rel : ∃ ρ : Int → Int → Prop, Bij ρ ∧ (∀ y y', ρ y y' → Φ y y' ∨ (y ≤ -1 ∧ s.low ≤ y' ∧ y' ≤ -1)) ∧ (∀ y y', Φ y y' → ρ y y') ∧ ρ (-1) (-1) ∧ TR ρ x.1 s.a ∧ TR ρ x.2.1 s.b
  over : x.2.2 = s.over
  low : s.low ≤ -1
theorem TR.restrict {ρ : Int → Int → Prop} {l : Int} : ∀ {o o' : Ot}, TR ρ o o' → (∀ w k, o = some (w, k) → l ≤ k) → TR (fun y y' => ρ y y' ∧ l ≤ y) o o'
  | none, none, _, _ => trivial
  | some (w, m), some (w', m'), h, q => ⟨h.1, h.2, q w m rfl⟩
  | none, some _, h, _ => h.elim
  | some _, none, h, _ => h.elim
section
variable {Φ : Int → Int → Prop}
/-- a block is run on both sides -/
theorem Sim.run (hΦ : ∀ y y', Φ y y' → 0 ≤ y ∧ 0 ≤ y') (b : Bk) {x : State} {s : St} (h : Sim Φ x s) (ho : x.2.2 = false) {i i' : Th} (others : List Ot) (hi : i.1 = i'.1 ∧ Φ i.2 i'.2) :
    Sim Φ (let r := b.run i ⟨x.1, x.2.1, false, leastMark (x.1 :: x.2.1 :: some i :: others)⟩; (r.a, r.b, r.over)) (b.run i' s) := by
  obtain ⟨⟨ρ, B, hρ, hf, hm, ha, hb⟩, hov, hlow⟩ := h
  generalize hL : leastMark (x.1 :: x.2.1 :: some i :: others) = L
  have hL1 : L ≤ -1 := by rw [← hL]; exact leastMark_neg
  have la : ∀ w k, x.1 = some (w, k) → L ≤ k := fun w k e => by rw [← hL]; exact leastMark_le (w := w) (by simp [e])
  have lb : ∀ w k, x.2.1 = some (w, k) → L ≤ k := fun w k e => by rw [← hL]; exact leastMark_le (w := w) (by simp [e])
  have li : ∀ w k, some i = some (w, k) → L ≤ k := fun w k e => by rw [← hL]; exact leastMark_le (w := w) (by simp [e])
  have S : SR (fun y y' => ρ y y' ∧ L ≤ y) ⟨x.1, x.2.1, false, L⟩ s := by
    refine ⟨⟨fun p q => B.inj p.1 q.1⟩, ⟨hm, hL1⟩, fun {y y'} p => ⟨p.2, ?_⟩, ha.restrict la, hb.restrict lb, ?_⟩
    · rcases hρ y y' p.1 with q | ⟨_, q, _⟩
      · have := hΦ y y' q
        omega
      · exact q
    · show false = s.over
      rw [← hov, ho]
  have T : TR (fun y y' => ρ y y' ∧ L ≤ y) (some i) (some i') := by
    obtain ⟨w, m⟩ := i
    obtain ⟨w', m'⟩ := i'
    exact ⟨hi.1, hf _ _ hi.2, li w m rfl⟩
  obtain ⟨ρ', g1, S', l1, l2⟩ := Bk.ren b S T
  refine ⟨⟨fun y y' => ρ' y y' ∨ Φ y y', ?_⟩, S'.over, Int.le_trans l2 hlow⟩
  -- what is fresh is below all items
  have hk : ∀ y y', ρ' y y' → Φ y y' ∨ (y ≤ -1 ∧ (b.run i' s).low ≤ y' ∧ y' ≤ -1) := by
    intro y y' q
    have lw := S'.low q
    rcases g1.2 y y' q with q2 | ⟨q2, q3⟩
    · rcases hρ y y' q2.1 with q4 | ⟨q4, q5, q6⟩
      · exact .inl q4
      · exact .inr ⟨q4, lw.2, q6⟩
    · have e : (St.mk x.1 x.2.1 false L).low = L := rfl
      rw [e] at q2
      exact .inr ⟨by omega, lw.2, by omega⟩
  have all : ∀ y y', ρ' y y' ∨ Φ y y' → Φ y y' ∨ (ρ' y y' ∧ y ≤ -1 ∧ (b.run i' s).low ≤ y' ∧ y' ≤ -1) := by
    intro y y' q
    rcases q with q | q
    · rcases hk y y' q with q2 | q2
      · exact .inl q2
      · exact .inr ⟨q, q2⟩
    · exact .inl q
  refine ⟨⟨?_⟩, ?_, fun _ _ q => .inr q, .inl S'.at_, S'.a.mono fun _ _ q => .inl q, S'.b.mono fun _ _ q => .inl q⟩
  · intro y y' z z' p q
    rcases all _ _ p with p | ⟨p, p1, p2, p3⟩ <;> rcases all _ _ q with q | ⟨q, q1, q2, q3⟩
    · exact B.inj (hf _ _ p) (hf _ _ q)
    · have := hΦ _ _ p
      omega
    · have := hΦ _ _ q
      omega
    · exact S'.bij.inj p q
  · intro y y' q
    rcases all _ _ q with q | ⟨_, q⟩
    · exact .inl q
    · exact .inr q
theorem Sim.told (hB : True) {x : State} {s : St} (h : Sim Φ x s) : toldM x = s.told := by
  obtain ⟨⟨ρ, B, _, _, _, ha, hb⟩, _, _⟩ := h
  exact ha.told B hb
theorem Sim.start (hΦ : ∀ y y', Φ y y' → 0 ≤ y ∧ 0 ≤ y') (B : Bij Φ) : Sim Φ start begin0 := by
  refine ⟨⟨fun y y' => Φ y y' ∨ (y = -1 ∧ y' = -1), ⟨?_⟩, ?_, fun _ _ q => .inl q, .inr ⟨rfl, rfl⟩, trivial, trivial⟩, rfl, Int.le_refl _⟩
  · intro y y' z z' p q
    rcases p with p | ⟨rfl, rfl⟩ <;> rcases q with q | ⟨rfl, rfl⟩
    · exact B.inj p q
    · have := hΦ _ _ p
      omega
    · have := hΦ _ _ q
      omega
    · simp
  · intro y y' q
    rcases q with q | ⟨rfl, rfl⟩
    · exact .inl q
    · exact .inr ⟨Int.le_refl _, Int.le_refl _, Int.le_refl _⟩
/-- an item is taken on both sides -/
theorem Sim.take (hΦ : ∀ y y', Φ y y' → 0 ≤ y ∧ 0 ≤ y') (b : Bk) {x : State} {s : St} (h : Sim Φ x s) {i i' : Th} (hi : i.1 = i'.1 ∧ Φ i.2 i'.2) : Sim Φ (Plan.step ⟨b, false, false⟩ x i []) (lawTake b .item i' s) := by
  cases ho : x.2.2 with
  | true =>
    have e : Plan.step ⟨b, false, false⟩ x i [] = x := by unfold Plan.step; rw [if_pos (by simp [ho])]
    have e2 : lawTake b .item i' s = s := Bk.run_over b i' (h.over ▸ ho)
    rw [e, e2]
    exact h
  | false =>
    have := h.run hΦ b ho [] hi
    unfold Plan.step
    rw [if_neg (by simp [ho])]
    exact this
theorem Sim.runs (hΦ : ∀ y y', Φ y y' → 0 ≤ y ∧ 0 ≤ y') (b : Bk) : ∀ (l : List (Th × Th)) {x : State} {s : St}, Sim Φ x s → (∀ p ∈ l, p.1.1 = p.2.1 ∧ Φ p.1.2 p.2.2) →
    Sim Φ ((l.map (·.1)).foldl (fun st i => Plan.step ⟨b, false, false⟩ st i []) x) ((l.map (·.2)).foldl (fun s i => lawTake b .item i s) s)
  | [], x, s, h, _ => h
  | p :: l, x, s, h, hl => Sim.runs hΦ b l (h.take hΦ b (hl p List.mem_cons_self)) fun q hq => hl q (List.mem_cons_of_mem _ hq)
end
/-- the same items -/
def same0 (y y' : Int) : Prop := 0 ≤ y ∧ y = y'
theorem same0_ok : ∀ y y', same0 y y' → 0 ≤ y ∧ 0 ≤ y' := fun y y' h => ⟨h.1, h.2 ▸ h.1⟩
theorem same0_bij : Bij same0 := ⟨fun p q => by
  obtain ⟨_, rfl⟩ := p
  obtain ⟨_, rfl⟩ := q
  exact Iff.rfl⟩
theorem sim_same (b : Bk) (items : List Th) (h : ∀ i ∈ items, 0 ≤ i.2) : Sim same0 (runM ⟨b, false, false⟩ items) (lawRun b .item items) := by
  have := Sim.runs same0_ok b (items.map fun i => (i, i)) (Sim.start same0_ok same0_bij) (by
    intro p hp
    obtain ⟨i, hi, rfl⟩ := List.mem_map.mp hp
    exact ⟨rfl, h i hi, rfl⟩)
  simp only [List.map_map] at this
  have e : ∀ l : List Th, l.map ((fun p : Th × Th => p.1) ∘ fun i => (i, i)) = l := fun l => by induction l <;> simp_all
  have e2 : ∀ l : List Th, l.map ((fun p : Th × Th => p.2) ∘ fun i => (i, i)) = l := fun l => by induction l <;> simp_all
  rw [e, e2] at this
  exact this
theorem told_same (b : Bk) (items : List Th) (h : ∀ i ∈ items, 0 ≤ i.2) : toldM (runM ⟨b, false, false⟩ items) = (lawRun b .item items).told := (sim_same b items h).told trivial
/-- items with other marks -/
theorem told_renamed (b : Bk) (items : List Th) (f : Int → Int) (h : ∀ i ∈ items, 0 ≤ i.2 ∧ 0 ≤ f i.2) (hf : ∀ i ∈ items, ∀ j ∈ items, f i.2 = f j.2 → i.2 = j.2) :
    toldM (runM ⟨b, false, false⟩ (items.map fun i => (i.1, f i.2))) = (lawRun b .item items).told := by
  let Φ : Int → Int → Prop := fun y y' => ∃ i ∈ items, y' = i.2 ∧ y = f i.2
  have hΦ : ∀ y y', Φ y y' → 0 ≤ y ∧ 0 ≤ y' := fun y y' ⟨i, hi, e1, e2⟩ => ⟨e2 ▸ (h i hi).2, e1 ▸ (h i hi).1⟩
  have B : Bij Φ := ⟨fun {x x' y y'} p q => by
    obtain ⟨i, hi, e1, e2⟩ := p
    obtain ⟨j, hj, e3, e4⟩ := q
    subst e1 e2 e3 e4
    exact ⟨hf i hi j hj, fun e => by rw [e]⟩⟩
  have := Sim.runs hΦ b (items.map fun i => ((i.1, f i.2), i)) (Sim.start hΦ B) (by
    intro p hp
    obtain ⟨i, hi, rfl⟩ := List.mem_map.mp hp
    exact ⟨rfl, i, hi, rfl, rfl⟩)
  simp only [List.map_map] at this
  have e2 : ∀ l : List Th, l.map ((fun p : Th × Th => p.2) ∘ fun i => ((i.1, f i.2), i)) = l := fun l => by induction l <;> simp_all
  rw [e2] at this
  exact this.told trivial
end Mac
end
section
set_option Elab.async false
set_option linter.all false
set_option maxRecDepth 100000
set_option autoImplicit false
set_option maxHeartbeats 1000000
namespace UkW
open Uk
open Mac (Wo Th Ot Nm Bs Pv Vl Wd Ts Sm Bk)
/-! ## A law's own runs -/
/-- how a law names objects -/
structure EncOk (nm : Int → String × Int) : Prop where
  inj : ∀ {x y : Int}, nm x = nm y → x = y
  at_ : nm (-1) = ("at", 0)
  cp : ∀ c : Int, 1 ≤ c → nm (-1 - c) = ("copy", c)
def lthD (nm : Int → String × Int) : Ot → D
  | none => .non
  | some (w, m) => .tup [woD w, .str (nm m).1, .int (nm m).2]
def lO (nm : Int → String × Int) (s : Mac.St) : O := .dK [(.str "a", lthD nm s.a), (.str "b", lthD nm s.b), (.str "over", .bl s.over), (.str "made", .int (-1 - s.low))]
theorem fn_lget : P.fn "" "_law_get" = some d__law_get := by rfl
theorem fn_lholds : P.fn "" "_law_holds" = some d__law_holds := by rfl
theorem fn_ldo : P.fn "" "_law_do" = some d__law_do := by rfl
theorem fn_lbegin : P.fn "" "_law_begin" = some d__law_begin := by rfl
theorem fn_ltake : P.fn "" "_law_take" = some d__law_take := by rfl
theorem fn_ltold : P.fn "" "_law_told" = some d__law_told := by rfl
section
variable {nm : Int → String × Int} (E : EncOk nm)
@[simp] theorem lth_none : lthD nm none = .non := rfl
@[simp] theorem lth_isNon (o : Ot) : (lthD nm o).isNon = o.isNone := by
  cases o with
  | none => rfl
  | some t => rfl
@[simp] theorem lth_ok (o : Ot) : (lthD nm o).ok = true := by
  cases o with
  | none => rfl
  | some t => obtain ⟨w, m⟩ := t; cases w <;> rfl
include E in
theorem lth_eqv (x y : Ot) : D.eqv (lthD nm x) (lthD nm y) = decide (x = y) := by
  cases x with
  | none =>
    cases y with
    | none => rfl
    | some t => rfl
  | some t =>
    cases y with
    | none => rfl
    | some u =>
      obtain ⟨w, m⟩ := t
      obtain ⟨w', m'⟩ := u
      have e : (decide ((nm m).1 = (nm m').1) && decide ((nm m).2 = (nm m').2)) = decide (m = m') := by
        by_cases h : m = m'
        · subst h; simp
        · have h2 : ¬ ((nm m).1 = (nm m').1 ∧ (nm m).2 = (nm m').2) := fun q => h (E.inj (Prod.ext q.1 q.2))
          rw [decide_eq_false h]
          rw [← Bool.decide_and]
          exact decide_eq_false h2
      simp only [lthD, eqv_tup_tup, eqvs_cc, wo_eqv, eqv_str, eqv_int, eqvs_nil, Bool.and_true, e]
      by_cases h1 : w = w' <;> by_cases h2 : m = m' <;> simp [h1, h2]
include E in
theorem lth_eq (c : Cx) (g : G) (x y : Ot) : cmpop c .eq (lthD nm x) (lthD nm y) g = .ok (.bl (decide (x = y))) g := by
  rw [eq_data c (lth_ok x) (lth_ok y), lth_eqv E]
variable {g : G} {s : Nat} {st : Mac.St}
theorem lget (h : g[s]? = some (lO nm st)) (x : Nm) : getIx (.ref s) (.str (nmS x)) g = .ok (lthD nm (st.get x)) g := by
  rw [getIx_dK h]
  cases x <;> simp [nmS, Mac.St.get]
theorem lover (h : g[s]? = some (lO nm st)) : getIx (.ref s) (.str "over") g = .ok (.bl st.over) g := by
  rw [getIx_dK h]
  simp
theorem lmade (h : g[s]? = some (lO nm st)) : getIx (.ref s) (.str "made") g = .ok (.int (-1 - st.low)) g := by
  rw [getIx_dK h]
  simp
theorem lput (h : g[s]? = some (lO nm st)) (x : Nm) (v : Ot) : setSub (.ref s) (.str (nmS x)) (lthD nm v) g = .ok () (g.set s (lO nm (st.put x v))) := by
  rw [setSub_dK h (by simp)]
  cases x <;> rfl
theorem lputO (h : g[s]? = some (lO nm st)) (b : Bool) : setSub (.ref s) (.str "over") (.bl b) g = .ok () (g.set s (lO nm { st with over := b })) := by
  rw [setSub_dK h (by simp)]
  rfl
theorem lputM (h : g[s]? = some (lO nm st)) (i : Int) : setSub (.ref s) (.str "made") (.int i) g = .ok () (g.set s (lO nm { st with low := -1 - i })) := by
  rw [setSub_dK h (by simp)]
  show R.ok () (g.set s (.dK _)) = R.ok () (g.set s (.dK _))
  have e : -1 - (-1 - i) = i := by omega
  simp only [lO, e]
  rfl
include E in
theorem lget_bs (n : Nat) (h : g[s]? = some (lO nm st)) (x : Bs) (i : Th) : call P (n + 1) "" "_law_get" [bsD x, .ref s, lthD nm (some i)] g = .ok (lthD nm (x.val st i)) g := by
  cases x with
  | item =>
    refine call_ok fn_lget rfl (δ := [some (bsD .item), some (.ref s), some (lthD nm (some i)), some (.str "item"), none]) ?_
    simp [d__law_get, exs, exe, ev, evs, bsD, Mac.Bs.val]
  | nm x =>
    refine call_ok fn_lget rfl (δ := [some (bsD (.nm x)), some (.ref s), some (lthD nm (some i)), some (.str (nmS x)), none]) ?_
    have h1 : nmS x ≠ "item" := by cases x <;> decide
    have h2 : nmS x ≠ "none" := by cases x <;> decide
    have h3 : nmS x ≠ "at" := by cases x <;> decide
    have h4 : nmS x ≠ "copy" := by cases x <;> decide
    simp [d__law_get, exs, exe, ev, evs, bsD, Mac.Bs.val, h1, h2, h3, h4, lget h]
include E in
theorem lget_pv (n : Nat) (h : g[s]? = some (lO nm st)) (x : Pv) (i : Th) : call P (n + 1) "" "_law_get" [pvD x, .ref s, lthD nm (some i)] g = .ok (lthD nm (x.val st i)) g := by
  cases x with
  | bs x => exact lget_bs E n h x i
  | none =>
    refine call_ok fn_lget rfl (δ := [some (pvD .none), some (.ref s), some (lthD nm (some i)), some (.str "none"), none]) ?_
    simp [d__law_get, exs, exe, ev, evs, pvD, Mac.Pv.val]
  | «at» k =>
    refine call_ok fn_lget rfl (δ := [some (pvD (.at k)), some (.ref s), some (lthD nm (some i)), some (.str "at"), none]) ?_
    simp [d__law_get, exs, exe, ev, evs, pvD, Mac.Pv.val, lthD, E.at_, woD]
include E in
theorem lget_ok (n : Nat) (h : g[s]? = some (lO nm st)) (hl : st.low ≤ -1) (v : Vl) (i : Th) : call P (n + 2) "" "_law_get" [vlD v, .ref s, lthD nm (some i)] g = .ok (lthD nm (v.val st i).1) (g.set s (lO nm (v.val st i).2)) := by
  cases v with
  | pv v =>
    rw [show (Vl.val (.pv v) st i).2 = st from rfl, set_same h]
    exact lget_pv E (n + 1) h v i
  | copy x =>
    have e1 := lget_bs E n h x i
    cases hx : x.val st i with
    | none =>
      rw [hx] at e1
      refine call_ok fn_lget rfl (δ := [some (vlD (.copy x)), some (.ref s), some (lthD nm (some i)), some (.str "copy"), some .non]) ?_
      simp [d__law_get, exs, exe, ev, evs, vlD, e1, Mac.Vl.val, Mac.fresh, hx]
      exact (set_same h).symm
    | some t =>
      obtain ⟨w, m⟩ := t
      rw [hx] at e1
      refine call_ok fn_lget rfl (δ := [some (vlD (.copy x)), some (.ref s), some (lthD nm (some i)), some (.str "copy"), some (lthD nm (some (w, m)))]) ?_
      have e2 : -1 - (-1 - st.low + 1) = st.low - 1 := by omega
      have e3 := lputM h (-1 - st.low + 1)
      rw [e2] at e3
      have e4 := lmade (get_set (o' := lO nm { st with low := st.low - 1 }) h)
      have e5 := E.cp (-1 - (st.low - 1)) (by omega)
      rw [show -1 - (-1 - (st.low - 1)) = st.low - 1 from by omega] at e5
      have e6 : lthD nm (some (w, st.low - 1)) = .tup [woD w, .str "copy", .int (-1 - (st.low - 1))] := by simp [lthD, e5]
      have e1 : call P (n + 1) "" "_law_get" [bsD x, .ref s, lthD nm (some i)] g = .ok (.tup [woD w, .str (nm m).1, .int (nm m).2]) g := e1
      have e7 : lthD nm (some (w, m)) = .tup [woD w, .str (nm m).1, .int (nm m).2] := rfl
      rw [e7]
      generalize lthD nm (some i) = it at e1
      simp [d__law_get, exs, exe, ev, evs, vlD, e1, Mac.Vl.val, Mac.fresh, hx, lmade h, e3, e4, e6]
theorem like_some (u u' : Wo) (m m' : Int) : Mac.like (some (u, m)) (some (u', m')) = (!decide (u = .odd) && decide (u = u')) := by
  cases u <;> cases u' <;> simp [Mac.like, beq_dec]
theorem lth_ix (w : Wo) (m : Int) (g : G) : getIx (lthD nm (some (w, m))) (.int 0) g = .ok (woD w) g := by simp [lthD]
include E in
theorem lholds_t0 (n : Nat) (h : g[s]? = some (lO nm st)) (w : Wd) (x y : Pv) (i : Th) : Ok (call P (n + 2) "" "_law_holds" [t0D w x y, .ref s, lthD nm (some i)] g) fun v g' => v = .bl (w.holds (x.val st i) (y.val st i)) ∧ g' = g := by
  have e1 := lget_pv E n h x i
  have e2 := lget_pv E n h y i
  refine body_run fn_lholds rfl ?_
  generalize x.val st i = p at e1
  generalize y.val st i = q at e2
  generalize lthD nm (some i) = it at e1 e2
  have e3 := fun c => lth_eq E c g p q
  cases w with
  | same => simp [d__law_holds, exs, exe, ev, evs, t0D, wdS, e1, e2, e3, Mac.Wd.holds]
  | alike =>
    cases p with
    | none => cases q <;> simp [d__law_holds, exs, exe, ev, evs, t0D, wdS, e1, e2, Mac.Wd.holds, Mac.like, -lth_none]
    | some p =>
      obtain ⟨u, m⟩ := p
      cases q with
      | none => cases u <;> simp [d__law_holds, exs, exe, ev, evs, t0D, wdS, e1, e2, Mac.Wd.holds, Mac.like, -lth_none]
      | some q =>
        obtain ⟨u', m'⟩ := q
        by_cases h1 : u = .odd <;> by_cases h2 : u = u' <;> simp [d__law_holds, exs, exe, ev, evs, t0D, wdS, e1, e2, Mac.Wd.holds, like_some, lth_ix, ne_data, eq_data, h1, h2]
        all_goals (try subst h1) <;> simp_all
  | below =>
    cases p with
    | none => cases q <;> simp [d__law_holds, exs, exe, ev, evs, t0D, wdS, e1, e2, Mac.Wd.holds, Mac.less, -lth_none]
    | some p =>
      obtain ⟨u, m⟩ := p
      cases q with
      | none => cases u <;> simp [d__law_holds, exs, exe, ev, evs, t0D, wdS, e1, e2, Mac.Wd.holds, Mac.less, -lth_none]
      | some q =>
        obtain ⟨u', m'⟩ := q
        cases u <;> cases u' <;> simp [d__law_holds, exs, exe, ev, evs, t0D, wdS, e1, e2, Mac.Wd.holds, Mac.less, lth_ix, ne_data, eq_data, woD]
        all_goals split <;> simp_all
  | in_ =>
    by_cases hpq : p = q
    · subst hpq
      cases p with
      | none => simp [d__law_holds, exs, exe, ev, evs, t0D, wdS, e1, e2, Mac.Wd.holds, Mac.like, -lth_none]
      | some p =>
        obtain ⟨u, m⟩ := p
        by_cases h1 : u = .odd <;> simp [d__law_holds, exs, exe, ev, evs, t0D, wdS, e1, e2, Mac.Wd.holds, like_some, lth_ix, ne_data, eq_data, h1, lth_eqv E]
    · rw [decide_eq_false hpq] at e3
      cases p with
      | none =>
        cases q with
        | none => exact absurd rfl hpq
        | some q => simp [d__law_holds, exs, exe, ev, evs, t0D, wdS, e1, e2, e3, Mac.Wd.holds, Mac.like, -lth_none]
      | some p =>
        obtain ⟨u, m⟩ := p
        cases q with
        | none => cases u <;> simp [d__law_holds, exs, exe, ev, evs, t0D, wdS, e1, e2, e3, Mac.Wd.holds, Mac.like, -lth_none]
        | some q =>
          obtain ⟨u', m'⟩ := q
          by_cases h1 : u = .odd <;> by_cases h2 : u = u' <;> simp [d__law_holds, exs, exe, ev, evs, t0D, wdS, e1, e2, Mac.Wd.holds, like_some, lth_ix, ne_data, eq_data, h1, h2, hpq, lth_eqv E]
          all_goals simp_all
include E in
theorem lholds_ok (n : Nat) (h : g[s]? = some (lO nm st)) (t : Ts) (i : Th) : call P (n + 3) "" "_law_holds" [tsD t, .ref s, lthD nm (some i)] g = .ok (.bl (t.holds st i)) g := by
  unfold tsD Mac.Ts.holds
  obtain ⟨v, g', e, rfl, rfl⟩ := (lholds_t0 E n h t.w t.x t.y i).to
  obtain ⟨v, g', e', rfl, rfl⟩ := (lholds_t0 E (n + 1) h t.w t.x t.y i).to
  cases t.neg with
  | false =>
    simp
    exact e'
  | true =>
    refine call_ok fn_lholds rfl (δ := [some (.tup [.str "not", t0D t.w t.x t.y]), some (.ref s), some (lthD nm (some i)), none, none, none]) ?_
    simp [d__law_holds, exs, exe, ev, evs, e]
end
end UkW
end
section
set_option Elab.async false
set_option linter.all false
set_option maxRecDepth 100000
set_option autoImplicit false
set_option maxHeartbeats 1000000
namespace UkW
open Uk
open Mac (Wo Th Ot Nm Bs Pv Vl Wd Ts Sm Bk Man)
section
variable {nm : Int → String × Int} (E : EncOk nm)
/-! ### a block is executed -/
theorem fresh_low (o : Ot) (s : Mac.St) : (Mac.fresh o s).2.low ≤ s.low := by
  cases o with
  | none => exact Int.le_refl _
  | some t => show s.low - 1 ≤ s.low; omega
theorem vl_low (v : Vl) (s : Mac.St) (i : Th) : (v.val s i).2.low ≤ s.low := by
  cases v with
  | pv v => exact Int.le_refl _
  | copy x => exact fresh_low _ _
mutual
theorem sm_low : ∀ (t : Sm) (i : Th) (s : Mac.St), (t.run i s).low ≤ s.low
  | .brk, i, s => Int.le_refl _
  | .set x v, i, s => by
    show ((v.val s i).2.put x (v.val s i).1).low ≤ _
    rw [Mac.put_low]
    exact vl_low v s i
  | .ifs t y n, i, s => by
    rw [Mac.Sm.run]
    split
    · exact bk_low y i s
    · exact bk_low n i s
theorem bk_low : ∀ (b : Bk) (i : Th) (s : Mac.St), (b.run i s).low ≤ s.low
  | .nil, i, s => by rw [Mac.Bk.run]; exact Int.le_refl _
  | .cons t b, i, s => by
    rw [Mac.Bk.run]
    split
    · exact Int.le_refl _
    · exact Int.le_trans (bk_low b i _) (sm_low t i s)
end
def doBody : Ss := .c (.ife (.ix (.loc 1) (.cst (.str "over"))) (.c (.retN) .n) .n) (.c (.ife (.cmp .eq (.ix (.loc 3) (.cst (.int 0))) (.cst (.str "break"))) (.c (.sub (.loc 1) (.cst (.str "over")) (.cst (.bl true))) .n) (.c (.ife (.cmp .eq (.ix (.loc 3) (.cst (.int 0))) (.cst (.str "set"))) (.c (.sub (.loc 1) (.ix (.loc 3) (.cst (.int 1))) (.call "_law_get" (.c (.ix (.loc 3) (.cst (.int 2))) (.c (.loc 1) (.c (.loc 2) .n))))) .n)
  (.c (.asg 4 (.cst (.int 3))) (.c (.ife (.call "_law_holds" (.c (.ix (.loc 3) (.cst (.int 1))) (.c (.loc 1) (.c (.loc 2) .n)))) (.c (.asg 4 (.cst (.int 2))) .n) .n) (.c (.ex (.call "_law_do" (.c (.ix (.loc 3) (.loc 4)) (.c (.loc 1) (.c (.loc 2) .n))))) .n)))) .n)) .n)
theorem do_body : d__law_do.body = .c (.for_ (.one 3) (.seq (.loc 0)) doBody) .n := by rfl
include E in
theorem lstm_ok {k N : Nat} (hN : 3 ≤ N) (c1 : String → String → List D → G → R D) (rec_ : ∀ k', k = k' + 1 → ∀ (b : Bk), bkOk k' b → ∀ (g : G) (s : Nat) (st : Mac.St) (i : Th), st.low ≤ -1 → g[s]? = some (lO nm st) → call P N "" "_law_do" [.tup (bkD b), .ref s, lthD nm (some i)] g = .ok .non (g.set s (lO nm (b.run i st))))
    {t : Sm} (ht : smOk k t) {g : G} {s : Nat} {st : Mac.St} (hl : st.low ≤ -1) (ho : st.over = false) (q : g[s]? = some (lO nm st)) (x y : Option D) (i : Th) :
    ∃ y', exs ⟨P, call P N, c1, none⟩ doBody [x, some (.ref s), some (lthD nm (some i)), some (smD t), y] g = .ok ([x, some (.ref s), some (lthD nm (some i)), some (smD t), y'], .nx) (g.set s (lO nm (t.run i st))) := by
  have o1 := lover q
  rw [ho] at o1
  obtain ⟨N, rfl⟩ : ∃ m, N = m + 3 := ⟨N - 3, by omega⟩
  cases t with
  | brk =>
    generalize lthD nm (some i) = it
    exact ⟨y, by simp [doBody, exs, exe, ev, o1, smD, lputO q, Mac.Sm.run]⟩
  | set z v =>
    have e1 := lget_ok E (N + 1) q hl v i
    have e2 := lput (get_set (o' := lO nm (v.val st i).2) q) z (v.val st i).1
    rw [set_set] at e2
    generalize lthD nm (some i) = it at e1
    exact ⟨y, by simp [doBody, exs, exe, ev, evs, o1, smD, e1, e2, Mac.Sm.run]⟩
  | ifs t b1 b2 =>
    unfold smOk at ht
    obtain ⟨h1, j, rfl, h2, h3, h4, h5⟩ := ht
    have ry := rec_ j rfl b1 h4 g s st i hl q
    have rn := rec_ j rfl b2 h5 g s st i hl q
    have hh := lholds_ok E N q t i
    generalize lthD nm (some i) = it at ry rn hh
    cases ht : t.holds st i with
    | true =>
      rw [ht] at hh
      exact ⟨some (.int 2), by simp [doBody, exs, exe, ev, evs, o1, smD, hh, ry, Mac.Sm.run, ht]⟩
    | false =>
      rw [ht] at hh
      exact ⟨some (.int 3), by simp [doBody, exs, exe, ev, evs, o1, smD, hh, rn, Mac.Sm.run, ht]⟩
include E in
theorem lblk_walk {k N : Nat} (hN : 3 ≤ N) (c1 : String → String → List D → G → R D) (rec_ : ∀ k', k = k' + 1 → ∀ (b : Bk), bkOk k' b → ∀ (g : G) (s : Nat) (st : Mac.St) (i : Th), st.low ≤ -1 → g[s]? = some (lO nm st) → call P N "" "_law_do" [.tup (bkD b), .ref s, lthD nm (some i)] g = .ok .non (g.set s (lO nm (b.run i st)))) :
    ∀ (b : Bk), bkOk k b → ∀ (g : G) (s : Nat) (st : Mac.St) (x y z : Option D) (i : Th), st.low ≤ -1 → g[s]? = some (lO nm st) → ∃ δ f, (f = .nx ∨ f = .rt .non) ∧ walkT (.one 3) (exs ⟨P, call P N, c1, none⟩ doBody) (bkD b) [x, some (.ref s), some (lthD nm (some i)), y, z] g = .ok (δ, f) (g.set s (lO nm (b.run i st)))
  | .nil, _, g, s, st, x, y, z, i, hl, q => ⟨_, .nx, .inl rfl, by rw [Mac.Bk.run, set_same q]; rfl⟩
  | .cons t b, hb, g, s, st, x, y, z, i, hl, q => by
    unfold bkOk at hb
    have e0 : bindT (.one 3) (smD t) [x, some (.ref s), some (lthD nm (some i)), y, z] = some [x, some (.ref s), some (lthD nm (some i)), some (smD t), z] := rfl
    cases ho : st.over with
    | true =>
      refine ⟨[x, some (.ref s), some (lthD nm (some i)), some (smD t), z], .rt .non, .inr rfl, ?_⟩
      have o1 := lover q
      rw [ho] at o1
      rw [Mac.Bk.run_over _ _ ho, set_same q]
      show walkT _ _ (smD t :: bkD b) _ _ = _
      rw [walkT_cons, e0]
      generalize lthD nm (some i) = it
      simp [doBody, exs, exe, ev, o1]
    | false =>
      obtain ⟨z', e1⟩ := lstm_ok E hN c1 rec_ hb.1 hl ho q x z i
      have hl' : (t.run i st).low ≤ -1 := Int.le_trans (sm_low t i st) hl
      obtain ⟨δ, f, hf, e⟩ := lblk_walk hN c1 rec_ b hb.2 _ s _ x (some (smD t)) z' i hl' (get_set (o' := lO nm (t.run i st)) q)
      refine ⟨δ, f, hf, ?_⟩
      have er : (Bk.cons t b).run i st = b.run i (t.run i st) := by rw [Mac.Bk.run]; simp [ho]
      rw [er]
      show walkT _ _ (smD t :: bkD b) _ _ = _
      rw [walkT_cons, e0]
      dsimp only
      rw [e1]
      show walkT _ _ (bkD b) [x, some (.ref s), some (lthD nm (some i)), some (smD t), z'] (g.set s (lO nm (t.run i st))) = _
      rw [e, set_set]
include E in
theorem ldo_ok : ∀ (k : Nat) (n : Nat) (b : Bk), bkOk k b → ∀ (g : G) (s : Nat) (st : Mac.St) (i : Th), st.low ≤ -1 → g[s]? = some (lO nm st) → call P (n + k + 4) "" "_law_do" [.tup (bkD b), .ref s, lthD nm (some i)] g = .ok .non (g.set s (lO nm (b.run i st))) := by
  have fin : ∀ {N : Nat} {b : Bk} {g : G} {s : Nat} {st : Mac.St} {i : Th}, (∃ δ f, (f = .nx ∨ f = .rt .non) ∧ walkT (.one 3) (exs ⟨P, call P N, call P (N - 1), none⟩ doBody) (bkD b) [some (.tup (bkD b)), some (.ref s), some (lthD nm (some i)), none, none] g = .ok (δ, f) (g.set s (lO nm (b.run i st)))) →
      call P (N + 1) "" "_law_do" [.tup (bkD b), .ref s, lthD nm (some i)] g = .ok .non (g.set s (lO nm (b.run i st))) := by
    intro N b g s st i ⟨δ, f, hf, e⟩
    rw [call_fn fn_ldo, runF_eq (by rfl), do_body]
    generalize lthD nm (some i) = it at e
    simp [exs, exe, ev, evI]
    show ((walkT (.one 3) (exs ⟨P, call P N, call P (N - 1), none⟩ doBody) (bkD b) [some (.tup (bkD b)), some (.ref s), some it, none, none] g).bind _).bind _ = _
    rw [e]
    rcases hf with rfl | rfl <;> rfl
  intro k
  induction k with
  | zero =>
    intro n b hb g s st i hl q
    exact fin (lblk_walk E (k := 0) (N := n + 3) (by omega) _ (fun k' e => by omega) b hb g s st _ none none i hl q)
  | succ k ih =>
    intro n b hb g s st i hl q
    refine fin (lblk_walk E (k := k + 1) (N := n + (k + 1) + 3) (by omega) _ (fun k' e b' hb' g s st i hl q => ?_) b hb g s st _ none none i hl q)
    obtain rfl : k' = k := by omega
    have := ih n b' hb' g s st i hl q
    rw [show n + (k' + 1) + 3 = n + k' + 4 from by omega]
    exact this
/-! ### beginning, taking, telling -/
theorem lbegin_ok (n : Nat) (g : G) : call P (n + 1) "" "_law_begin" [] g = .ok (.ref g.length) (g ++ [lO nm Mac.begin0]) := by
  refine call_ok fn_lbegin rfl (δ := []) ?_
  have m1 : mkD g.length [.str "a", .non, .str "b", .non, .str "over", .bl false, .str "made", .int 0] (g ++ [.dK []]) = .ok (.ref g.length) (g ++ [lO nm Mac.begin0]) := by
    unfold mkD
    rw [get_new]
    dsimp only
    rw [if_pos ⟨rfl, by simp⟩]
    have : mergeD [] [.str "a", .non, .str "b", .non, .str "over", .bl false, .str "made", .int 0] = some [(.str "a", .non), (.str "b", .non), (.str "over", .bl false), (.str "made", .int 0)] := by
      simp [mergeD, putD]
    rw [this]
    show R.ok (D.ref g.length) ((g ++ [O.dK []]).set g.length _) = _
    rw [List.set_append_right _ _ (Nat.le_refl _)]
    simp [lO, Mac.begin0]
  simp [d__law_begin, exs, exe, ev, evs, evP, m1]
def manS : Man → String
  | .item => "item"
  | .one => "one"
  | .copy => "copy"
  | .left => "left"
/-- the names that a law gives to items -/
structure EncI (nm : Int → String × Int) : Prop extends EncOk nm where
  one : nm Mac.oneMark = ("one", 0)
def itemNm (nm : Int → String × Int) (i : Th) : Prop := nm i.2 = ("item", i.2)
include E in
theorem ltake_ok (h1 : nm Mac.oneMark = ("one", 0)) (n : Nat) {k : Nat} {b : Bk} (hb : bkOk k b) (m : Man) {g : G} {s : Nat} {st : Mac.St} (hl : st.low ≤ -1) (q : g[s]? = some (lO nm st)) (i : Th) (hi : itemNm nm i) :
    call P (n + k + 5) "" "_law_take" [.tup (bkD b), .ref s, thD i, .str (manS m)] g = .ok .non (g.set s (lO nm (Mac.lawTake b m i st))) := by
  rw [call_fn fn_ltake, runF_eq (by rfl)]
  obtain ⟨w, mk⟩ := i
  have e1 := ldo_ok E k n b hb g s st (w, mk) hl q
  have ei : lthD nm (some (w, mk)) = .tup [woD w, .str "item", .int mk] := by
    show D.tup [woD w, .str (nm mk).1, .int (nm mk).2] = _
    rw [show nm mk = ("item", mk) from hi]
  rw [ei] at e1
  cases m with
  | item => simp [d__law_take, exs, exe, ev, evs, manS, thD, e1, Mac.lawTake]
  | one =>
    have e2 := ldo_ok E k n b hb g s st (w, Mac.oneMark) hl q
    have ej : lthD nm (some (w, Mac.oneMark)) = .tup [woD w, .str "one", .int 0] := by
      show D.tup [woD w, .str (nm Mac.oneMark).1, .int (nm Mac.oneMark).2] = _
      rw [h1]
    rw [ej] at e2
    simp [d__law_take, exs, exe, ev, evs, manS, thD, e2, Mac.lawTake]
  | left =>
    by_cases hw : w = .odd
    · subst hw
      simp [d__law_take, exs, exe, ev, evs, manS, thD, eq_data, woD, Mac.lawTake]
      exact (set_same q).symm
    · simp [d__law_take, exs, exe, ev, evs, manS, thD, eq_data, hw, e1, Mac.lawTake]
  | copy =>
    have e2 : -1 - (-1 - st.low + 1) = st.low - 1 := by omega
    have e3 := lputM q (-1 - st.low + 1)
    rw [e2] at e3
    have q2 := get_set (o' := lO nm { st with low := st.low - 1 }) q
    have e4 := lmade q2
    have e5 := E.cp (-1 - (st.low - 1)) (by omega)
    rw [show -1 - (-1 - (st.low - 1)) = st.low - 1 from by omega] at e5
    have e6 : lthD nm (some (w, st.low - 1)) = .tup [woD w, .str "copy", .int (-1 - (st.low - 1))] := by simp [lthD, e5]
    have e7 := ldo_ok E k n b hb _ s _ (w, st.low - 1) (by show st.low - 1 ≤ -1; omega) q2
    rw [e6, set_set] at e7
    simp [d__law_take, exs, exe, ev, evs, manS, thD, lmade q, e3, e4, e7, Mac.lawTake, Mac.fresh]
theorem take_low (b : Bk) (m : Man) (i : Th) (s : Mac.St) : (Mac.lawTake b m i s).low ≤ s.low := by
  cases m with
  | item => exact bk_low _ _ _
  | one => exact bk_low _ _ _
  | left =>
    unfold Mac.lawTake
    dsimp only
    split
    · exact Int.le_refl _
    · exact bk_low _ _ _
  | copy => exact Int.le_trans (bk_low _ _ _) (fresh_low _ _)
theorem lth_word (o : Ot) (g : G) : o.isNone = false → getIx (lthD nm o) (.int 0) g = .ok (wordD (Mac.wordOf o)) g := by
  intro h
  cases o with
  | none => cases h
  | some t => obtain ⟨w, m⟩ := t; exact lth_ix w m g
include E in
theorem ltold_ok (n : Nat) {g : G} {s : Nat} {st : Mac.St} (q : g[s]? = some (lO nm st)) : Ok (call P (n + 1) "" "_law_told" [.ref s] g) fun v g' => v = toldD st.told ∧ Gr g g' := by
  refine body_run fn_ltold rfl ?_
  have wa := fun (g' : G) (q' : g'[s]? = some (lO nm st)) => lget q' .a
  have wb := fun (g' : G) (q' : g'[s]? = some (lO nm st)) => lget q' .b
  simp [d__law_told, exs, exe, ev, evs, evI]
  let g1 : G := (g ++ [.lst []]) ++ [.lst [.str "a", .str "b"]]
  have hw : walkOf (.ref (g.length + 1)) g1 = some (2, .seq (g.length + 1)) := by
    have := walk_ref (g := g1) (a := g.length + 1) (xs := [.str "a", .str "b"]) (by
      have := get_new (g ++ [O.lst []]) (.lst [.str "a", .str "b"])
      simpa [g1] using this)
    simpa using this
  have hg1 : g ++ [O.lst [], O.lst [.str "a", .str "b"]] = g1 := by simp [g1]
  rw [hg1, hw]
  simp
  have gr : Gr g g1 := by rw [← hg1]; exact .app _ _
  have l0 : g1[g.length]? = some (.lst []) := get_app (get_new g _) _
  have l1 : g1[g.length + 1]? = some (.lst [.str "a", .str "b"]) := by
    have := get_new (g ++ [O.lst []]) (.lst [.str "a", .str "b"])
    simpa [g1] using this
  refine Ok.mono (for_inv (fun i δ g' => (∃ x, δ = [some (.ref s), some (.ref g.length), x]) ∧ Gr g g' ∧ g'[g.length + 1]? = some (.lst [.str "a", .str "b"]) ∧ g'[g.length]? = some (.lst ([wordD (Mac.wordOf st.a), wordD (Mac.wordOf st.b)].take i))) (fun _ _ => False) ?step ?stop 2 0 _ _ (by simp) ⟨⟨_, rfl⟩, gr, l1, l0⟩) ?fin
  case stop => exact fun δ g' h => item_seq_end (n := 2) h.2.2.1
  case step =>
    rintro i _ g2 hi ⟨⟨x, rfl⟩, h2, h3, h4⟩
    have q2 := h2.get q
    match i, hi with
    | 0, _ =>
      refine ⟨.str "a", _, item_seq (i := 0) h3 (by simp), rfl, ?_⟩
      have wa2 := wa g2 q2
      simp [Mac.St.get, nmS] at wa2
      have ap := app_ref h4 (by simp) (wordD (Mac.wordOf st.a))
      cases ha : st.a with
      | none =>
        rw [ha] at wa2 ap
        simp [wordD, Mac.wordOf] at ap
        simp [wa2, kind_lst h4, ap]
        exact ⟨h2.set (Nat.le_refl _) _, h3, by rw [get_set h4]; simp [ha, wordD, Mac.wordOf]⟩
      | some t =>
        rw [ha] at wa2 ap
        simp [wordD, Mac.wordOf] at ap
        obtain ⟨w, m⟩ := t
        simp [wa2, lth_ix, kind_lst h4, ap]
        exact ⟨h2.set (Nat.le_refl _) _, h3, by rw [get_set h4]; simp [ha, wordD, Mac.wordOf]⟩
    | 1, _ =>
      refine ⟨.str "b", _, item_seq (i := 1) h3 (by simp), rfl, ?_⟩
      have wb2 := wb g2 q2
      simp [Mac.St.get, nmS] at wb2
      have ap := app_ref h4 (by simp) (wordD (Mac.wordOf st.b))
      cases hb : st.b with
      | none =>
        rw [hb] at wb2 ap
        simp [wordD, Mac.wordOf] at ap
        simp [wb2, kind_lst h4, ap]
        exact ⟨h2.set (Nat.le_refl _) _, h3, by rw [get_set h4]; simp [hb, wordD, Mac.wordOf]⟩
      | some t =>
        rw [hb] at wb2 ap
        simp [wordD, Mac.wordOf] at ap
        obtain ⟨w, m⟩ := t
        simp [wb2, lth_ix, kind_lst h4, ap]
        exact ⟨h2.set (Nat.le_refl _) _, h3, by rw [get_set h4]; simp [hb, wordD, Mac.wordOf]⟩
  case fin =>
    intro z g2 hz
    obtain ⟨e, f⟩ := z
    cases f with
    | rt d => exact hz.elim
    | nx =>
      obtain ⟨⟨x, rfl⟩, h2, h3, h4⟩ := hz
      have q2 := h2.get q
      have wa2 := wa g2 q2
      have wb2 := wb g2 q2
      simp [Mac.St.get, nmS] at wa2 wb2
      have h4 : g2[g.length]? = some (.lst [wordD (Mac.wordOf st.a), wordD (Mac.wordOf st.b)]) := h4
      simp [getIx_ref h4, wa2, wb2, lth_eq E]
      exact ⟨rfl, h2⟩
theorem fn_lrun : P.fn "" "_law_run" = some d__law_run := by rfl
include E in
/-- a law's run -/
theorem lrun_ok (h1 : nm Mac.oneMark = ("one", 0)) (n : Nat) {k : Nat} {b : Bk} (hb : bkOk k b) (m : Man) (g : G) (items : List Th) (hi : ∀ i ∈ items, itemNm nm i) :
    Ok (call P (n + k + 6) "" "_law_run" [.tup (bkD b), .tup (items.map thD), .str (manS m)] g) fun v g' => v = toldD (Mac.lawRun b m items).told ∧ Gr g g' := by
  refine body_run (n := n + k + 5) fn_lrun rfl ?_
  have e1 := lbegin_ok (nm := nm) (n + k + 4) g
  have hl : (items.map thD).length = items.length := by simp
  simp [d__law_run, exs, exe, ev, evs, evI, e1]
  rw [← hl, forL_tup]
  refine Ok.mono (walk_inv (Q := fun z g' => z.2 = .nx ∧ ∃ x, z.1 = [some (.tup (bkD b)), some (.tup (items.map thD)), some (.str (manS m)), some (.ref g.length), x] ∧ g' = g ++ [lO nm (Mac.lawRun b m items)]) (fun pre r δ g' => ∃ ip ir, items = ip ++ ir ∧ r = ir.map thD ∧ (∃ x, δ = [some (.tup (bkD b)), some (.tup (items.map thD)), some (.str (manS m)), some (.ref g.length), x]) ∧ g' = g ++ [lO nm (Mac.lawRun b m ip)] ∧ (Mac.lawRun b m ip).low ≤ -1) ?step ?fin (items.map thD) [] _ _ ⟨[], items, rfl, rfl, ⟨_, rfl⟩, rfl, by show (-1 : Int) ≤ -1; omega⟩) ?fin2
  case step =>
    rintro pre x r _ _ ⟨ip, ir, hi2, hr, ⟨y, rfl⟩, rfl, hlow⟩
    cases ir with
    | nil => cases hr
    | cons i ir =>
      simp at hr
      obtain ⟨rfl, rfl⟩ := hr
      refine ⟨_, rfl, ?_⟩
      have t1 := ltake_ok E h1 n hb m hlow (get_new g (lO nm (Mac.lawRun b m ip))) i (hi i (by rw [hi2]; simp))
      have e2 : (g ++ [lO nm (Mac.lawRun b m ip)]).set g.length (lO nm (Mac.lawTake b m i (Mac.lawRun b m ip))) = g ++ [lO nm (Mac.lawTake b m i (Mac.lawRun b m ip))] := by
        rw [List.set_append_right _ _ (Nat.le_refl _)]
        simp
      rw [e2] at t1
      simp [t1]
      refine ⟨ip ++ [i], ir, by rw [hi2]; simp, rfl, ?_, ?_⟩
      · congr 2
        unfold Mac.lawRun
        rw [List.foldl_append]
        rfl
      · have : Mac.lawRun b m (ip ++ [i]) = Mac.lawTake b m i (Mac.lawRun b m ip) := by
          unfold Mac.lawRun
          rw [List.foldl_append]
          rfl
        rw [this]
        exact Int.le_trans (take_low _ _ _ _) hlow
  case fin =>
    rintro pre δ g' ⟨ip, ir, hi2, hr, ⟨y, rfl⟩, rfl, hlow⟩
    cases ir with
    | cons _ _ => cases hr
    | nil =>
      simp at hi2
      subst hi2
      exact ⟨rfl, y, rfl, rfl⟩
  case fin2 =>
    rintro ⟨e, f⟩ g' ⟨hz, x, he, hg⟩
    have hz : f = _ := hz
    have he : e = _ := he
    subst hz he hg
    simp
    refine (ltold_ok E (n + k + 4) (get_new g (lO nm (Mac.lawRun b m items)))).mono fun v g' ⟨h1, h2⟩ => ?_
    exact ⟨h1, (Gr.app g _).trans h2⟩
end
/-- the names as the laws give them -/
def nm0 (m : Int) : String × Int := if m = Mac.oneMark then ("one", 0) else if 0 ≤ m then ("item", m) else if m = -1 then ("at", 0) else ("copy", -1 - m)
theorem nm0_ok : EncOk nm0 := by
  have k : Mac.oneMark = 1000000000 := rfl
  refine ⟨fun {x y} h => ?_, by rfl, fun c hc => ?_⟩
  · unfold nm0 at h
    repeat' split at h
    all_goals simp at h
    all_goals omega
  · unfold nm0
    rw [if_neg (by omega), if_neg (by omega), if_neg (by omega)]
    congr 1
    omega
theorem nm0_item (i : Th) (h : 0 ≤ i.2) (h2 : i.2 < 1000000000) : itemNm nm0 i := by
  unfold itemNm nm0
  rw [if_neg (by have k : Mac.oneMark = 1000000000 := rfl; omega), if_pos h]
theorem nm0_one : nm0 Mac.oneMark = ("one", 0) := by
  unfold nm0
  rw [if_pos rfl]
end UkW
end
section
set_option Elab.async false
set_option linter.all false
set_option maxRecDepth 100000
set_option autoImplicit false
set_option maxHeartbeats 1000000
namespace UkW
open Uk
/-! ## _law_equal, of equal things -/
theorem fn_equal : P.fn "" "_law_equal" = some d__law_equal := by rfl
theorem nc : P.cls "bool" = false ∧ P.cls "int" = false ∧ P.cls "str" = false ∧ P.cls "dict" = false ∧ P.cls "tuple" = false ∧ P.cls "list" = false := ⟨rfl, rfl, rfl, rfl, rfl, rfl⟩
def Eql (n : Nat) (x : D) : Prop := ∀ g, Ok (call P n "" "_law_equal" [x, x] g) fun v g' => v = .bl true ∧ Gr g g'
theorem equal_0 (n : Nat) (x : D) (hx : x.dep = 0) : Eql (n + 1) x := by
  intro g
  refine body_run fn_equal rfl ?_
  obtain ⟨c1, c2, c3, c4, c5, c6⟩ := nc
  cases x with
  | ref a => unfold D.dep at hx; omega
  | fro a => unfold D.dep at hx; omega
  | tup a => unfold D.dep at hx; omega
  | non => simp [d__law_equal, exs, exe, ev, evs, D.isNon]; exact .refl _
  | bl b => simp [d__law_equal, exs, exe, ev, evs, D.isNon, isInst, c1, isType]; exact .refl _
  | int i => simp [d__law_equal, exs, exe, ev, evs, D.isNon, isInst, c1, c2, isType]; exact .refl _
  | str s => simp [d__law_equal, exs, exe, ev, evs, D.isNon, isInst, c1, c2, c3, isType]; exact .refl _
theorem all_true {g : G} {c : Cx} {a n : Nat} (h : g[a]? = some (.lst ((List.range n).filterMap fun _ => some (D.bl true)))) : builtin c .all [.ref a] g = .ok (.bl true) g := by
  have e : (List.range n).filterMap (fun _ => some (D.bl true)) = ((List.range n).map fun _ => true).map D.bl := by
    rw [List.map_map, ← List.filterMap_eq_map]
    rfl
  rw [e] at h
  rw [all_ref h]
  congr 2
  simp
theorem equal_tup (n : Nat) (xs : List D) (hl : xs.length ≤ 1000) (hx : ∀ x, x ∈ xs → Eql n x) : Eql (n + 1) (.tup xs) := by
  intro g
  refine body_run fn_equal rfl ?_
  obtain ⟨c1, c2, c3, c4, c5, c6⟩ := nc
  have hr : rng1 (.int (xs.length : Int)) = some (xs.length, .rng 0 1) := rng1_ok _ (by omega)
  simp [d__law_equal, exs, exe, ev, evs, D.isNon, isInst, c1, c2, c3, c4, c5, c6, isType, evI, hr]
  refine Ok.mono (comp_fm (xs := (List.range xs.length).map fun (j : Nat) => D.int (j : Int)) (fun _ => some (.bl true)) (by simp) items_rng (by simp; omega) fun x hxm g2 hg2 => ?_) fun _ g2 ⟨h1, h2⟩ => ?_
  · obtain ⟨j, hj, rfl⟩ := List.mem_map.mp hxm
    have hj : j < xs.length := by simpa using hj
    obtain ⟨v, g3, e3, rfl, h3⟩ := (hx _ (List.getElem_mem hj) g2).to
    simp [bindT, Uk.wipe, getIx_nat hj, e3]
    exact h3
  · rw [List.filterMap_map] at h2
    simp [all_true h2]
    exact h1
theorem equal_list (n : Nat) (xs : List D) (hl : xs.length ≤ 1000) (hx : ∀ x, x ∈ xs → Eql n x) (g : G) (a b : Nat) (ha : g[a]? = some (.lst xs)) (hb : g[b]? = some (.lst xs)) : Ok (call P (n + 1) "" "_law_equal" [.ref a, .ref b] g) fun v g' => v = .bl true ∧ Gr g g' := by
  refine body_run fn_equal rfl ?_
  obtain ⟨c1, c2, c3, c4, c5, c6⟩ := nc
  have hr : rng1 (.int (xs.length : Int)) = some (xs.length, .rng 0 1) := rng1_ok _ (by omega)
  simp [d__law_equal, exs, exe, ev, evs, D.isNon, isInst, c1, c2, c3, c4, c5, c6, isType, evI, hr, ha, hb, len_ref ha, len_ref hb]
  refine Ok.mono (comp_fm (xs := (List.range xs.length).map fun (j : Nat) => D.int (j : Int)) (fun _ => some (.bl true)) (by simp) items_rng (by simp; omega) fun x hxm g2 hg2 => ?_) fun _ g2 ⟨h1, h2⟩ => ?_
  · obtain ⟨j, hj, rfl⟩ := List.mem_map.mp hxm
    have hj : j < xs.length := by simpa using hj
    obtain ⟨v, g3, e3, rfl, h3⟩ := (hx _ (List.getElem_mem hj) g2).to
    have gi : ∀ {q : Nat}, g[q]? = some (.lst xs) → getIx (.ref q) (.int (j : Int)) g2 = .ok xs[j] g2 := fun {q} hq => by
      rw [getIx_ref (hg2.get hq), atI_nat xs j hj, List.getElem?_eq_getElem hj]
      rfl
    simp [bindT, Uk.wipe, gi ha, gi hb, e3]
    exact h3
  · rw [List.filterMap_map] at h2
    simp [all_true h2]
    exact h1
end UkW
end
section
set_option Elab.async false
set_option linter.all false
set_option maxRecDepth 100000
set_option autoImplicit false
set_option maxHeartbeats 1000000
namespace UkW
open Uk
open Mac (Wo Th Ot Nm Bs Pv Vl Wd Ts Sm Bk Man)
/-! ## What is an item -/
theorem fn_isworth : P.fn "" "is_worth" = some d_is_worth := by rfl
theorem fn_isitem : P.fn "" "is_item" = some d_is_item := by rfl
theorem fn_need : P.fn "" "need_items" = some d_need_items := by rfl
theorem con_most : P.con "MOST_WORTH" = some (.int 3) := by rfl
def worthB (x : D) : Bool := match x with
  | .str s => decide (s = "odd")
  | .int i => decide (0 ≤ i) && decide (i ≤ 3)
  | _ => false
def markB (x : D) : Bool := match x with
  | .int i => decide (0 ≤ i)
  | _ => false
def itemB (x : D) : Bool := match x with
  | .tup [w, m] => worthB w && markB m
  | _ => false
theorem isworth_ok (n : Nat) (x : D) (hx : x.dep = 0) (g : G) : call P (n + 2) "" "is_worth" [x] g = .ok (.bl (worthB x)) g := by
  obtain ⟨c1, c2, c3, c4, c5, c6⟩ := nc
  have e := isint_ok n x hx g
  refine call_ok fn_isworth rfl (δ := [some x]) ?_
  cases x with
  | ref a => unfold D.dep at hx; omega
  | fro a => unfold D.dep at hx; omega
  | tup a => unfold D.dep at hx; omega
  | non => simp [d_is_worth, exs, exe, ev, evs, isInst, c3, isType, e, intB, worthB]
  | bl b => simp [d_is_worth, exs, exe, ev, evs, isInst, c3, isType, e, intB, worthB]
  | int i =>
    by_cases h : 0 ≤ i
    · simp [d_is_worth, exs, exe, ev, evs, isInst, c3, isType, e, intB, worthB, con_most, h]
    · simp [d_is_worth, exs, exe, ev, evs, isInst, c3, isType, e, intB, worthB, con_most, h]
  | str s => simp [d_is_worth, exs, exe, ev, evs, isInst, c3, isType, worthB, con_odd]
/-- what is asked whether it is an item: data of little depth, or a list -/
def AskR (g : G) (x : D) : Prop := x.dep = 0 ∨ (∃ xs, x = .tup xs ∧ ∀ y ∈ xs, y.dep = 0) ∨ ∃ a l, x = .ref a ∧ g[a]? = some (.lst l)
theorem isitem_ok (n : Nat) (x : D) (g : G) (hx : AskR g x) : call P (n + 3) "" "is_item" [x] g = .ok (.bl (itemB x)) g := by
  obtain ⟨c1, c2, c3, c4, c5, c6⟩ := nc
  refine call_ok fn_isitem rfl (δ := [some x]) ?_
  rcases hx with hx | ⟨xs, rfl, hx⟩ | ⟨a, l, rfl, ha⟩
  · cases x with
    | ref a => unfold D.dep at hx; omega
    | fro a => unfold D.dep at hx; omega
    | tup a => unfold D.dep at hx; omega
    | _ => simp [d_is_item, exs, exe, ev, evs, isInst, c5, isType, itemB]
  · match xs, hx with
    | [], _ => simp [d_is_item, exs, exe, ev, evs, isInst, c5, isType, itemB]
    | [y], _ => simp [d_is_item, exs, exe, ev, evs, isInst, c5, isType, itemB]
    | [w, m], hx =>
      have e1 := isworth_ok n w (hx w (by simp)) g
      have hm := hx m (by simp)
      have e2 := isint_ok (n + 1) m hm g
      cases hw : worthB w with
      | false =>
        rw [hw] at e1
        simp [d_is_item, exs, exe, ev, evs, isInst, c5, isType, itemB, e1, hw]
      | true =>
        rw [hw] at e1
        cases m with
        | ref a => unfold D.dep at hm; omega
        | fro a => unfold D.dep at hm; omega
        | tup a => unfold D.dep at hm; omega
        | _ => simp [d_is_item, exs, exe, ev, evs, isInst, c5, isType, itemB, e1, hw, e2, intB, markB]
    | x1 :: x2 :: x3 :: r, _ =>
      have : ¬ ((r.length : Int) + 1 + 1 + 1 = 2) := by omega
      simp [d_is_item, exs, exe, ev, evs, isInst, c5, isType, itemB, this]
  · simp [d_is_item, exs, exe, ev, evs, isInst, c5, isType, itemB, ha]
def thOk (t : Th) : Prop := 0 ≤ t.2 ∧ (t.1 = .odd ∨ ∃ i, t.1 = .num i ∧ 0 ≤ i ∧ i ≤ 3)
theorem th_item {t : Th} (h : thOk t) : itemB (thD t) = true := by
  obtain ⟨w, m⟩ := t
  obtain ⟨h1, h2⟩ := h
  have h1 : 0 ≤ m := h1
  rcases h2 with h2 | ⟨i, h2, h3, h4⟩
  · have h2 : w = .odd := h2
    subst h2
    simp [thD, itemB, woD, worthB, markB, h1]
  · have h2 : w = .num i := h2
    subst h2
    simp [thD, itemB, woD, worthB, markB, h1, h3, h4]
theorem th_ask (g : G) (t : Th) : AskR g (thD t) := .inr (.inl ⟨_, rfl, by
  intro y hy
  simp at hy
  rcases hy with rfl | rfl
  · cases t.1 <;> rfl
  · rfl⟩)
/-- the first thing that is no item -/
def firstBad : Nat → List D → Option Nat
  | _, [] => none
  | i, x :: r => if itemB x then firstBad (i + 1) r else some i
def needBody : Ss := .c (.ife (.not_ (.call "is_item" (.c (.loc 2) .n))) (.c (.rai "InvalidItems" (.c (.loc 1) .n)) .n) .n) .n
theorem need_body : d_need_items.body = .c (.ife (.not_ (.isi (.loc 0) "tuple")) (.c (.rai "InvalidItems" (.c (.neg (.cst (.int 1))) .n)) .n) .n) (.c (.for_ (.many [1, 2]) (.enum (.loc 0)) needBody) .n) := by rfl
theorem need_walk (n : Nat) (g : G) (items : D) : ∀ (r : List D) (i : Nat) (x1 x2 : Option D), (∀ x ∈ r, AskR g x) →
    Res (walkT (.many [1, 2]) (exs ⟨P, call P (n + 3), call P (n + 2), none⟩ needBody) (enumD i r) [some items, x1, x2] g) (fun z g' => z.2 = .nx ∧ g' = g ∧ firstBad i r = none) fun x g' => g' = g ∧ ∃ j, firstBad i r = some j ∧ x = ⟨"InvalidItems", [("index", .int (j : Nat))]⟩
  | [], i, x1, x2, _ => ⟨rfl, rfl, rfl⟩
  | x :: r, i, x1, x2, h => by
    have e1 := isitem_ok n x g (h x List.mem_cons_self)
    have c5 : P.exn "InvalidItems" = some (some "index") := by rfl
    show Res (walkT _ _ (.tup [.int (i : Nat), x] :: enumD (i + 1) r) _ g) _ _
    rw [walkT_cons]
    have e0 : bindT (.many [1, 2]) (.tup [.int (i : Nat), x]) [some items, x1, x2] = some [some items, some (.int (i : Nat)), some x] := rfl
    rw [e0]
    unfold firstBad
    cases hx : itemB x with
    | true =>
      rw [hx] at e1
      have s1 : exs ⟨P, call P (n + 3), call P (n + 2), none⟩ needBody [some items, some (.int (i : Nat)), some x] g = .ok ([some items, some (.int (i : Nat)), some x], .nx) g := by simp [needBody, exs, exe, ev, evs, e1]
      dsimp only
      rw [s1]
      exact need_walk n g items r (i + 1) (some (.int (i : Nat))) (some x) fun y hy => h y (List.mem_cons_of_mem _ hy)
    | false =>
      rw [hx] at e1
      simp [needBody, exs, exe, ev, evs, e1, c5]
theorem need_ok (n : Nat) (g : G) (r : List D) (h : ∀ x ∈ r, AskR g x) : Res (call P (n + 4) "" "need_items" [.tup r] g) (fun v g' => v = .non ∧ g' = g ∧ firstBad 0 r = none) fun x g' => g' = g ∧ ∃ j, firstBad 0 r = some j ∧ x = ⟨"InvalidItems", [("index", .int (j : Nat))]⟩ := by
  obtain ⟨c1, c2, c3, c4, c5, c6⟩ := nc
  refine body_res fn_need rfl ?_
  rw [need_body]
  simp [exs, exe, ev, evs, evI, isInst, c5, isType]
  refine (need_walk n g (.tup r) r 0 none none h).mono (fun z g' ⟨h1, h2, h3⟩ => ?_) fun x g' q => q
  obtain ⟨e, f⟩ := z
  have h1 : f = _ := h1
  subst h1 h2
  simp [h3]
theorem need_not (n : Nat) (g : G) (x : D) (hx : x = .non ∨ ∃ a l, x = .ref a ∧ g[a]? = some (.lst l)) : call P (n + 4) "" "need_items" [x] g = .exc ⟨"InvalidItems", [("index", .int (-1))]⟩ g := by
  obtain ⟨c1, c2, c3, c4, c5, c6⟩ := nc
  have c7 : P.exn "InvalidItems" = some (some "index") := by rfl
  rw [call_fn fn_need, runF_eq (by rfl)]
  rcases hx with rfl | ⟨a, l, rfl, ha⟩
  · simp [d_need_items, exs, exe, ev, evs, isInst, c5, isType, c7]
  · simp [d_need_items, exs, exe, ev, evs, isInst, c5, isType, ha, c7]
theorem first_good : ∀ {items : List Th} (i : Nat), (∀ t ∈ items, thOk t) → firstBad i (items.map thD) = none
  | [], _, _ => rfl
  | t :: r, i, h => by
    show (if itemB (thD t) then firstBad (i + 1) (r.map thD) else some i) = none
    rw [if_pos (th_item (h t List.mem_cons_self))]
    exact first_good (i + 1) fun x hx => h x (List.mem_cons_of_mem _ hx)
theorem first_at : ∀ (items : List Th) (i : Nat) (x : D) (r : List D), (∀ t ∈ items, thOk t) → itemB x = false → firstBad i (items.map thD ++ x :: r) = some (i + items.length)
  | [], i, x, r, _, hx => by
    show (if itemB x then _ else some i) = _
    rw [hx]
    simp
  | t :: l, i, x, r, h, hx => by
    show (if itemB (thD t) then firstBad (i + 1) (l.map thD ++ x :: r) else some i) = _
    rw [if_pos (th_item (h t List.mem_cons_self)), first_at l (i + 1) x r (fun y hy => h y (List.mem_cons_of_mem _ hy)) hx]
    simp
    omega
/-! ## Plans, runs -/
theorem loop_cls : P.cls "Loop" = true := by rfl
theorem fn_plan : P.fn "Loop" "plan" = some d_Loop_plan := by rfl
theorem fn_pinit : P.fn "Plan" "__init__" = some d_PlanU_initU := by rfl
theorem plan_make (n : Nat) (f1 : String → String → List D → G → R D) (cu : Option Exn) (b : Bk) (x y : Bool) (g : G) : make ⟨P, f1, call P (n + 1), cu⟩ "Plan" [.tup (bkD b), .bl x, .bl y] g = .ok (.ref g.length) (g ++ [.ins "Plan" [("block_told", .tup (bkD b)), ("is_copying", .bl x), ("is_skipping", .bl y)]]) := by
  let g1 : G := g ++ [.ins "Plan" []]
  have e1 : g1[g.length]? = some (.ins "Plan" []) := get_new g _
  let g2 := g1.set g.length (.ins "Plan" [("block_told", .tup (bkD b))])
  have s1 : setFld P (.ref g.length) "block_told" (.tup (bkD b)) g1 = .ok () g2 := fld_ref e1 plan_cls (by rfl) (by simp) _
  have e2 : g2[g.length]? = some (.ins "Plan" [("block_told", .tup (bkD b))]) := get_set e1
  let g3 := g2.set g.length (.ins "Plan" [("block_told", .tup (bkD b)), ("is_copying", .bl x)])
  have s2 : setFld P (.ref g.length) "is_copying" (.bl x) g2 = .ok () g3 := fld_ref e2 plan_cls (by rfl) (by simp) _
  have e3 : g3[g.length]? = some (.ins "Plan" [("block_told", .tup (bkD b)), ("is_copying", .bl x)]) := get_set e2
  have s3 : setFld P (.ref g.length) "is_skipping" (.bl y) g3 = .ok () (g3.set g.length (.ins "Plan" [("block_told", .tup (bkD b)), ("is_copying", .bl x), ("is_skipping", .bl y)])) := fld_ref e3 plan_cls (by rfl) (by simp) _
  have main : call P (n + 1) "Plan" "__init__" [.ref g.length, .tup (bkD b), .bl x, .bl y] g1 = .ok .non (g3.set g.length (.ins "Plan" [("block_told", .tup (bkD b)), ("is_copying", .bl x), ("is_skipping", .bl y)])) := by
    rw [call_fn fn_pinit, runF_eq (by rfl)]
    simp [d_PlanU_initU, exs, exe, ev, evs, s1, s2, s3]
  unfold make
  rw [if_pos plan_cls]
  show ((call P (n + 1) "Plan" "__init__" [.ref g.length, .tup (bkD b), .bl x, .bl y] g1).bind _) = _
  rw [main]
  show R.ok (D.ref g.length) _ = _
  congr 1
  show (((g1.set g.length _).set g.length _).set g.length _) = _
  rw [set_set, set_set]
  show (g ++ [_]).set g.length _ = _
  rw [List.set_append_right _ _ (Nat.le_refl _)]
  simp
theorem loop_p {f : String} (h : f ≠ "block") : P.prop "Loop" f = false := by
  show (pd.prop.contains ("Loop", f)) = false
  simp [pd, h]
theorem LoopT.mono {g g' : G} {a : Nat} {b : Bk} (h : LoopT g a b) (k : Gr g g') : LoopT g' a b := LoopAt.mono h fun _ _ e => k.get e
theorem LoopT.kind {g : G} {a : Nat} {b : Bk} (h : LoopT g a b) {m : String} (h1 : m ≠ "own_block") (h2 : m ≠ "rows") (h3 : m ≠ "block") (hm : (P.fn "Loop" m).isSome = true) : kindOf P (.ref a) m g = some (.ins "Loop") := by
  obtain ⟨j, e1, _⟩ := h
  refine kind_ins e1 ?_ loop_cls (loop_p h3) hm
  simp [lookF, Ne.symm h1, Ne.symm h2]
theorem LoopT.plan {g : G} {a : Nat} {b : Bk} (h : LoopT g a b) (n : Nat) : call P (n + 3) "Loop" "plan" [.ref a] g = .ok (.ref g.length) (g ++ [.ins "Plan" [("block_told", .tup (bkD b)), ("is_copying", .bl false), ("is_skipping", .bl false)]]) := by
  obtain ⟨j, e1, _⟩ := h
  have at1 : ∀ c1 c2 cu, attr ⟨P, c1, c2, cu⟩ (.ref a) "own_block" g = .ok (.tup (bkD b)) g := fun c1 c2 cu => att_ref (c := ⟨P, c1, c2, cu⟩) e1 loop_cls (loop_p (by decide)) (by rfl) rfl
  refine call_ok fn_plan rfl (δ := [some (.ref a)]) ?_
  simp [d_Loop_plan, exs, exe, ev, evs, at1, plan_make n]
/-- what stands at a can be asked for its plan -/
def Planned (g : G) (a : Nat) (pl : Mac.Plan) : Prop := ∀ g', Gr g g' → ∃ k, kindOf P (.ref a) "plan" g' = some (.ins k) ∧ ∀ n, Ok (call P (n + 3) k "plan" [.ref a] g') fun v g'' => ∃ p, v = .ref p ∧ Gr g' g'' ∧ PlanAt g'' p pl
theorem Planned.mono {g g' : G} {a : Nat} {pl : Mac.Plan} (h : Planned g a pl) (k : Gr g g') : Planned g' a pl := fun g2 q => h g2 (k.trans q)
theorem LoopT.planned {g : G} {a : Nat} {b : Bk} (h : LoopT g a b) : Planned g a ⟨b, false, false⟩ := fun g' k => by
  have h2 := h.mono k
  refine ⟨"Loop", h2.kind (by decide) (by decide) (by decide) (by rfl), fun n => ?_⟩
  rw [h2.plan n]
  exact ⟨_, rfl, .app _ _, get_new _ _⟩
theorem fn_run : P.fn "" "run" = some d_run := by rfl
theorem con_start : P.con "START" = some (.tup [.non, .non, .bl false]) := by rfl
theorem run_body : d_run.body = .c (.ex (.call "need_items" (.c (.loc 1) .n))) (.c (.asg 2 (.met (.loc 0) "plan" .n)) (.c (.asg 3 (.glo "START")) (.c (.for_ (.one 4) (.seq (.loc 1)) (.c (.asg 3 (.call "step" (.c (.loc 2) (.c (.loc 3) (.c (.loc 4) (.c (.lst .n) .n)))))) .n))
  (.c (.ret (.call "told_of" (.c (.ix (.loc 3) (.cst (.int 0))) (.c (.ix (.loc 3) (.cst (.int 1))) .n)))) .n)))) := by rfl
theorem run_ok (n : Nat) {g : G} {a : Nat} {pl : Mac.Plan} (h : Planned g a pl) (hb : bkOk 2 pl.blk) (items : List Th) (hi : ∀ t ∈ items, thOk t) : Ok (call P (n + 8) "" "run" [.ref a, .tup (items.map thD)] g) fun v g' => v = toldD (Mac.toldM (Mac.runM pl items)) ∧ Gr g g' := by
  refine body_run (n := n + 7) fn_run rfl ?_
  have h1 := need_ok (n + 3) g (items.map thD) (fun x hx => by
    obtain ⟨t, _, rfl⟩ := List.mem_map.mp hx
    exact th_ask g t)
  have h2 : call P (n + 7) "" "need_items" [.tup (items.map thD)] g = .ok .non g := by
    rw [show n + 3 + 4 = n + 7 from rfl] at h1
    cases hm : call P (n + 7) "" "need_items" [.tup (items.map thD)] g with
    | bad => rw [hm] at h1; exact h1.elim
    | exc x g' =>
      rw [hm] at h1
      obtain ⟨_, j, e, _⟩ := h1
      rw [first_good 0 hi] at e
      cases e
    | ok v g' =>
      rw [hm] at h1
      obtain ⟨h2, h3, _⟩ := h1
      rw [h2, h3]
  obtain ⟨k, hk, hp⟩ := h g (.refl g)
  obtain ⟨v, g1, e1, p, rfl, gr1, hpl⟩ := (hp (n + 4)).to
  rw [show n + 4 + 3 = n + 7 from rfl] at e1
  have hl : (items.map thD).length = items.length := by simp
  rw [run_body]
  simp [exs, exe, ev, evs, evI, h2, hk, e1, con_start]
  rw [← hl, forL_tup]
  refine Ok.mono (walk_inv (Q := fun z g' => z.2 = .nx ∧ ∃ x, z.1 = [some (.ref a), some (.tup (items.map thD)), some (.ref p), some (stD (Mac.runM pl items)), x] ∧ Gr g1 g') (fun pre r δ g' => ∃ ip ir, items = ip ++ ir ∧ r = ir.map thD ∧ (∃ x, δ = [some (.ref a), some (.tup (items.map thD)), some (.ref p), some (stD (Mac.runM pl ip)), x]) ∧ Gr g1 g') ?step ?fin (items.map thD) [] _ _ ⟨[], items, rfl, rfl, ⟨_, rfl⟩, .refl _⟩) ?fin2
  case step =>
    rintro pre x r _ g2 ⟨ip, ir, hi2, hr, ⟨y, rfl⟩, gr2⟩
    cases ir with
    | nil => cases hr
    | cons i ir =>
      simp at hr
      obtain ⟨rfl, rfl⟩ := hr
      refine ⟨_, rfl, ?_⟩
      obtain ⟨v, g3, e3, rfl, gr3⟩ := (step_ok n ((hpl.mono gr2).mono (.app g2 [.lst []])) hb (Mac.runM pl ip) i (l := []) (by simp) (get_new g2 (.lst []))).to
      simp [e3]
      refine ⟨ip ++ [i], ir, by rw [hi2]; simp, rfl, ?_, (gr2.trans (.app g2 [.lst []])).trans gr3⟩
      unfold Mac.runM
      rw [List.foldl_append]
      rfl
  case fin =>
    rintro pre δ g' ⟨ip, ir, hi2, hr, ⟨y, rfl⟩, gr2⟩
    cases ir with
    | cons _ _ => cases hr
    | nil =>
      simp at hi2
      subst hi2
      exact ⟨rfl, y, rfl, gr2⟩
  case fin2 =>
    rintro ⟨e, f⟩ g2 ⟨hz, x, he, gr2⟩
    have hz : f = _ := hz
    have he : e = _ := he
    subst hz he
    have hs : stD (Mac.runM pl items) = .tup [otD (Mac.runM pl items).1, otD (Mac.runM pl items).2.1, .bl (Mac.runM pl items).2.2] := rfl
    rw [hs]
    simp
    exact (told_ok (n + 5) (Mac.runM pl items).1 (Mac.runM pl items).2.1 g2).mono fun v g' ⟨h1, h2⟩ => ⟨h1, (gr1.trans gr2).trans h2⟩
end UkW
end
section
set_option Elab.async false
set_option linter.all false
set_option maxRecDepth 100000
set_option autoImplicit false
set_option maxHeartbeats 1000000
namespace UkW
open Uk
open Mac (Wo Th Ot Nm Bs Pv Vl Wd Ts Sm Bk Man)
/-! ## Drawn lists -/
theorem fn_some : P.fn "" "_law_some" = some d__law_some := by rfl
def SomeOk (t : Th) : Prop := thOk t ∧ t.2 ≤ 2
def someBody : Ss := .c (.asg 4 (.call "_law_pick" (.c (.loc 0) (.c (.lst (.c (.cst (.int 0)) (.c (.cst (.int 1)) (.c (.cst (.int 1)) (.c (.cst (.int 2)) (.c (.cst (.int 3)) (.c (.cst (.str "odd")) (.c (.cst (.str "odd")) .n)))))))) .n))))
 (.c (.asg 5 (.tup (.c (.loc 4) (.c (.call "_law_below" (.c (.loc 0) (.c (.cst (.int 3)) .n))) .n))))
 (.c (.ife (.and_ (.cmp .gt (.bi .len (.c (.loc 2) .n)) (.cst (.int 0))) (.cmp .eq (.call "_law_below" (.c (.loc 0) (.c (.cst (.int 3)) .n))) (.cst (.int 0)))) (.c (.asg 5 (.call "_law_pick" (.c (.loc 0) (.c (.loc 2) .n)))) .n) .n)
 (.c (.ex (.met (.loc 2) "append" (.c (.loc 5) .n))) .n)))
theorem some_body : d__law_some.body = .c (.asg 2 (.lst .n)) (.c (.for_ (.one 3) (.r1 (.call "_law_below" (.c (.loc 0) (.c (.bin .add (.loc 1) (.cst (.int 1))) .n)))) someBody) (.c (.ret (.bi .tuple (.c (.loc 2) .n))) .n)) := by rfl
theorem newL_7 (a b c d e f h : D) (g : G) : newL [a, b, c, d, e, f, h] g = .ok (.ref g.length) (g ++ [.lst [a, b, c, d, e, f, h]]) := newL_ok (by simp) g
theorem some_turn (n : Nat) (g : G) (i f : Nat) (x1 x3 x4 x5 : Option D) (items : List Th) (hi : ∀ t ∈ items, SomeOk t) (hl : items.length < 100) (h : Rd g i) (hf : g[f]? = some (.lst (items.map thD))) (hfi : f ≠ i) :
    Ok (exs ⟨P, call P (n + 2), call P (n + 1), none⟩ someBody [some (.ref i), x1, some (.ref f), x3, x4, x5] g) fun z g' => ∃ t y4 y5, z = ([some (.ref i), x1, some (.ref f), x3, y4, y5], .nx) ∧ SomeOk t ∧ g'[f]? = some (.lst ((items ++ [t]).map thD)) ∧ Rd g' i ∧ g.length ≤ g'.length ∧ ∀ (j : Nat) (o : O), j ≠ i → j ≠ f → g[j]? = some o → g'[j]? = some o := by
  let ws : List D := [.int 0, .int 1, .int 1, .int 2, .int 3, .str "odd", .str "odd"]
  obtain ⟨w, g1, e1, f1, hw⟩ := (pick_new n g i ws (by simp [ws]) (by simp [ws]) h).to
  have hwo : ∃ u : Wo, w = woD u ∧ (u = .odd ∨ ∃ k, u = .num k ∧ 0 ≤ k ∧ k ≤ 3) := by
    simp [ws] at hw
    rcases hw with rfl | rfl | rfl | rfl | rfl
    · exact ⟨.num 0, rfl, .inr ⟨0, rfl, by omega, by omega⟩⟩
    · exact ⟨.num 1, rfl, .inr ⟨1, rfl, by omega, by omega⟩⟩
    · exact ⟨.num 2, rfl, .inr ⟨2, rfl, by omega, by omega⟩⟩
    · exact ⟨.num 3, rfl, .inr ⟨3, rfl, by omega, by omega⟩⟩
    · exact ⟨.odd, rfl, .inl rfl⟩
  obtain ⟨u, rfl, hu⟩ := hwo
  obtain ⟨v, g2, e2, f2, l2, m, rfl, m0, m1⟩ := (draw (n + 1) g1 i 3 (by omega) (by omega) f1.st).to
  have hl2 : (items.map thD).length = items.length := by simp
  have f12 := f1.trans f2
  have hf2 := f12.2.1 f _ hfi hf
  let t0 : Th := (u, m)
  have ht0 : SomeOk t0 := ⟨⟨m0, hu⟩, by show m ≤ 2; omega⟩
  have fin : ∀ (t : Th) (g3 : G) , SomeOk t → Fr i g g3 → g3[f]? = some (.lst (items.map thD)) → ∃ g4, listM (.ref f) .append [thD t] g3 = .ok .non g4 ∧ g4[f]? = some (.lst ((items ++ [t]).map thD)) ∧ Rd g4 i ∧ g.length ≤ g4.length ∧ ∀ (j : Nat) (o : O), j ≠ i → j ≠ f → g[j]? = some o → g4[j]? = some o := by
    intro t g3 ht fr hf3
    refine ⟨_, app_ref hf3 (by simp; omega) (thD t), ?_, ?_, by simpa using fr.1, fun j o hj hjf ho => set_ne (fr.2.1 j o hj ho) hjf⟩
    · rw [get_set hf3]
      simp
    · obtain ⟨l, el, hl⟩ := fr.st
      exact ⟨l, set_ne el (Ne.symm hfi), hl⟩
  have ews : ([D.int 0, .int 1, .int 1, .int 2, .int 3, .str "odd", .str "odd"] : List D) = ws := rfl
  have hn : ∀ g, newL ws g = .ok (.ref g.length) (g ++ [.lst ws]) := fun g => newL_ok (by simp [ws]) g
  by_cases h0 : items.length = 0
  · have h0' : ¬ ((0 : Int) < ((items.map thD).length : Int)) := by simp [h0]
    obtain ⟨g4, a4, q1, q2, q3, q4⟩ := fin t0 g2 ht0 f12 hf2
    have a4 : listM (.ref f) .append [.tup [woD u, .int m]] g2 = .ok .non g4 := a4
    have h00 : items = [] := List.eq_nil_of_length_eq_zero h0
    refine Ok.mono (Q := fun z g' => z = ([some (.ref i), x1, some (.ref f), x3, some (woD u), some (.tup [woD u, .int m])], .nx) ∧ g' = g4) ?_ ?_
    · simp [someBody, exs, exe, ev, evs, ews, hn, e1, e2, len_ref hf2, h00]
      rw [kind_lst (P := P) hf2]
      simp [a4]
    · rintro _ _ ⟨rfl, rfl⟩
      exact ⟨t0, _, _, rfl, ht0, q1, q2, q3, q4⟩
  · have h0' : (0 : Int) < ((items.map thD).length : Int) := by simp; omega
    have h00 : 0 < items.length := by omega
    obtain ⟨v, g3, e3, f3, l3, c, rfl, c0, c1⟩ := (draw (n + 1) g2 i 3 (by omega) (by omega) f2.st).to
    have f123 := f12.trans f3
    have hf3 := f123.2.1 f _ hfi hf
    by_cases hc : c = 0
    · obtain ⟨v, g4, e4, f4, l4, hv⟩ := (pick n g3 i f (items.map thD) (by simp; omega) (by simp; omega) f3.st hf3 hfi).to
      obtain ⟨t, ht, rfl⟩ := List.mem_map.mp hv
      have f1234 := f123.trans f4
      obtain ⟨g5, a5, q1, q2, q3, q4⟩ := fin t g4 (hi t ht) f1234 (f1234.2.1 f _ hfi hf)
      have k4 := fun m => kind_lst (P := P) (f1234.2.1 f _ hfi hf) m
      refine Ok.mono (Q := fun z g' => z = ([some (.ref i), x1, some (.ref f), x3, some (woD u), some (thD t)], .nx) ∧ g' = g5) ?_ ?_
      · simp [someBody, exs, exe, ev, evs, ews, hn, e1, e2, len_ref hf2, e3, hc, e4, k4, a5, h00]
        try rfl
      · rintro _ _ ⟨rfl, rfl⟩
        exact ⟨t, _, _, rfl, hi t ht, q1, q2, q3, q4⟩
    · obtain ⟨g4, a4, q1, q2, q3, q4⟩ := fin t0 g3 ht0 f123 hf3
      have a4 : listM (.ref f) .append [.tup [woD u, .int m]] g3 = .ok .non g4 := a4
      refine Ok.mono (Q := fun z g' => z = ([some (.ref i), x1, some (.ref f), x3, some (woD u), some (.tup [woD u, .int m])], .nx) ∧ g' = g4) ?_ ?_
      · simp [someBody, exs, exe, ev, evs, ews, hn, e1, e2, len_ref hf2, e3, hc, kind_lst hf3, a4, h00]
      · rintro _ _ ⟨rfl, rfl⟩
        exact ⟨t0, _, _, rfl, ht0, q1, q2, q3, q4⟩
theorem some_ok (n : Nat) (many : Nat) (hm : many < 50) (g : G) (i : Nat) (h : Rd g i) : Ok (call P (n + 3) "" "_law_some" [.ref i, .int many] g) fun v g' => Fr i g g' ∧ ∃ items : List Th, v = .tup (items.map thD) ∧ items.length ≤ many ∧ ∀ t ∈ items, SomeOk t := by
  refine body_run (n := n + 2) fn_some rfl ?_
  have h1 : Rd (g ++ [.lst []]) i := h.gr (.app _ _)
  have hgi : g.length ≠ i := Nat.ne_of_gt (Fr.lt h)
  obtain ⟨v, g1, e1, f1, l1, c, rfl, c0, c1⟩ := (draw (n + 1) (g ++ [.lst []]) i (many + 1) (by omega) (by omega) h1).to
  obtain ⟨c, rfl⟩ : ∃ k : Nat, c = (k : Int) := ⟨c.toNat, by omega⟩
  have hr : rng1 (.int (c : Int)) = some (c, .rng 0 1) := rng1_ok _ (by omega)
  have e1 : call P (n + 2) "" "_law_below" [.ref i, .int ((many : Int) + 1)] (g ++ [.lst []]) = .ok (.int (c : Int)) g1 := e1
  have f0 : Fr i g g1 := (Fr.gr h (.app g [.lst []])).trans f1
  have hf := f1.2.1 _ _ hgi (get_new g (.lst []))
  rw [some_body]
  simp [exs, exe, ev, evs, evI, e1, hr]
  refine Ok.mono (for_inv (fun k δ g' => ∃ items : List Th, (∃ x3 x4 x5, δ = [some (.ref i), some (.int many), some (.ref g.length), x3, x4, x5]) ∧ items.length = k ∧ (∀ t ∈ items, SomeOk t) ∧ g'[g.length]? = some (.lst (items.map thD)) ∧ Fr i g g') (fun _ _ => False) ?step ?stop c 0 _ _ (by simp) ⟨[], ⟨_, _, _, rfl⟩, rfl, by simp, hf, f0⟩) ?fin
  case stop => exact fun δ g' _ => item_rng_end g'
  case step =>
    rintro k _ g2 hk ⟨items, ⟨x3, x4, x5, rfl⟩, hl, hi, h3, h4⟩
    refine ⟨_, _, item_rng hk g2, rfl, ?_⟩
    refine (some_turn n g2 i g.length _ (some (.int (k : Int))) x4 x5 items hi (by omega) h4.st h3 hgi).mono ?_
    rintro _ g3 ⟨t, y4, y5, rfl, ht, q1, q2, q3, q4⟩
    refine ⟨items ++ [t], ⟨_, _, _, rfl⟩, by simp [hl], ?_, q1, Nat.le_trans h4.1 q3, fun j o hj ho => q4 j o hj ?_ (h4.2.1 j o hj ho), q2⟩
    · intro s hs
      rcases List.mem_append.mp hs with hs | hs
      · exact hi s hs
      · rw [List.mem_singleton.mp hs]
        exact ht
    · have := get_lt ho
      omega
  case fin =>
    rintro ⟨e, f⟩ g2 hz
    cases f with
    | rt d => exact hz.elim
    | nx =>
      obtain ⟨items, ⟨x3, x4, x5, rfl⟩, hl, hi, h3, h4⟩ := hz
      have ht : builtin ⟨P, call P (n + 2), call P (n + 1), none⟩ .tuple [.ref g.length] g2 = .ok (.tup (items.map thD)) g2 := by
        show orElse (lsOf g2 g.length) (fun xs => newT xs g2) = _
        rw [lsOf_eq h3, orElse_some, newT_ok (by simp; omega)]
      simp [ht]
      exact ⟨h4, items, rfl, by omega, fun a b q => hi (a, b) q⟩
end UkW
end
section
set_option Elab.async false
set_option linter.all false
set_option maxRecDepth 100000
set_option autoImplicit false
set_option maxHeartbeats 1000000
namespace UkW
open Uk
open Mac (Wo Th Ot Nm Bs Pv Vl Wd Ts Sm Bk Man)
/-! ## Runners -/
/-- all but what stands in S is kept -/
def Kp (S : List Nat) (g g' : G) : Prop := g.length ≤ g'.length ∧ ∀ (j : Nat) (o : O), j ∉ S → g[j]? = some o → g'[j]? = some o
theorem Kp.refl (S : List Nat) (g : G) : Kp S g g := ⟨Nat.le_refl _, fun _ _ _ h => h⟩
theorem Kp.trans {S : List Nat} {a b c : G} (h : Kp S a b) (k : Kp S b c) : Kp S a c := ⟨Nat.le_trans h.1 k.1, fun j o n e => k.2 j o n (h.2 j o n e)⟩
theorem Gr.kp {S : List Nat} {g g' : G} (h : Gr g g') : Kp S g g' := ⟨h.len, fun _ _ _ e => h.get e⟩
theorem Kp.set {S : List Nat} {g g' : G} (h : Kp S g g') {i : Nat} (hi : i ∈ S) (o : O) : Kp S g (g'.set i o) := ⟨by simpa using h.1, fun j o' n e => set_ne (h.2 j o' n e) fun z => n (z ▸ hi)⟩
theorem Kp.new {S : List Nat} {g g' : G} (h : Kp S g g') (hS : ∀ i ∈ S, g.length ≤ i) : Kp [] g g' := ⟨h.1, fun j o _ e => h.2 j o (fun m => by
  have := hS j m
  have := get_lt e
  omega) e⟩
theorem Gr.thenK {S : List Nat} {a b c : G} (h : Gr a b) (k : Kp S b c) : Kp S a c := h.kp.trans k
def stsM (pl : Mac.Plan) (items : List Th) : List Mac.State := (List.range (items.length + 1)).map fun k => Mac.runM pl (items.take k)
theorem runM_snoc (pl : Mac.Plan) (items : List Th) (i : Th) : Mac.runM pl (items ++ [i]) = pl.step (Mac.runM pl items) i [] := by
  unfold Mac.runM
  rw [List.foldl_append]
  rfl
theorem stsM_snoc (pl : Mac.Plan) (items : List Th) (i : Th) : stsM pl (items ++ [i]) = stsM pl items ++ [Mac.runM pl (items ++ [i])] := by
  unfold stsM
  rw [List.length_append, List.length_singleton, List.range_succ, List.map_append]
  congr 1
  · refine List.map_congr_left fun k hk => ?_
    have hk : k < items.length + 1 := by simpa using hk
    rw [List.take_append_of_le_length (by omega)]
  · show [Mac.runM pl (List.take (items.length + 1) (items ++ [i]))] = _
    rw [List.take_of_length_le (by simp)]
theorem stsM_len (pl : Mac.Plan) (items : List Th) : (stsM pl items).length = items.length + 1 := by simp [stsM]
theorem stsM_nil (pl : Mac.Plan) : stsM pl [] = [Mac.start] := rfl
theorem snoc_cases {α : Type} (l : List α) : l = [] ∨ ∃ m x, l = m ++ [x] := by
  cases h : l.reverse with
  | nil => left; simpa using h
  | cons x m =>
    right
    refine ⟨m.reverse, x, ?_⟩
    have := congrArg List.reverse h
    simpa using this
theorem stsM_last (pl : Mac.Plan) (items : List Th) : ∃ m, stsM pl items = m ++ [Mac.runM pl items] := by
  rcases snoc_cases items with rfl | ⟨l, x, rfl⟩
  · exact ⟨[], rfl⟩
  · exact ⟨_, stsM_snoc pl l x⟩
structure RunnerAt (g : G) (r p sl tl : Nat) (pl : Mac.Plan) (items : List Th) : Prop where
  ins : g[r]? = some (.ins "Runner" [("own_plan", .ref p), ("states", .ref sl), ("taken_items", .ref tl)])
  plan : PlanAt g p pl
  sts : g[sl]? = some (.lst ((stsM pl items).map stD))
  its : g[tl]? = some (.lst (items.map thD))
  ne : sl ≠ tl
theorem runner_cls : P.cls "Runner" = true := by rfl
theorem runner_f1 : P.fld "Runner" "own_plan" = true := by rfl
theorem runner_f2 : P.fld "Runner" "states" = true := by rfl
theorem runner_f3 : P.fld "Runner" "taken_items" = true := by rfl
theorem runner_p {f : String} (h1 : f ≠ "told") (h2 : f ≠ "taken") (h3 : f ≠ "is_over") : P.prop "Runner" f = false := by
  show (pd.prop.contains ("Runner", f)) = false
  simp [pd, h1, h2, h3]
theorem fn_rinit : P.fn "Runner" "__init__" = some d_RunnerU_initU := by rfl
theorem fn_rtold : P.fn "Runner" "told" = some d_Runner_told := by rfl
theorem fn_rtaken : P.fn "Runner" "taken" = some d_Runner_taken := by rfl
theorem fn_rover : P.fn "Runner" "is_over" = some d_Runner_is_over := by rfl
theorem fn_rtake : P.fn "Runner" "take" = some d_Runner_take := by rfl
theorem fn_rundo : P.fn "Runner" "undo" = some d_Runner_undo := by rfl
theorem fn_rlen : P.fn "Runner" "__len__" = some d_RunnerU_lenU := by rfl
theorem atI_last {α : Type} (m : List α) (x : α) : atI (m ++ [x]) (-1) = some x := by
  unfold atI sIx
  have : ¬ (0 : Int) ≤ -1 := by omega
  rw [if_neg this, if_pos (by simp; omega)]
  have e : ((-1 : Int) + ((m ++ [x]).length : Int)).toNat = m.length := by simp; omega
  simp only [Option.bind_some, e]
  simp
section
variable {g : G} {r p sl tl : Nat} {pl : Mac.Plan} {items : List Th}
theorem RunnerAt.a1 (h : RunnerAt g r p sl tl pl items) (c1 c2 cu) : attr ⟨P, c1, c2, cu⟩ (.ref r) "own_plan" g = .ok (.ref p) g := att_ref (c := ⟨P, c1, c2, cu⟩) h.ins runner_cls (runner_p (by decide) (by decide) (by decide)) runner_f1 rfl
theorem RunnerAt.a2 (h : RunnerAt g r p sl tl pl items) (c1 c2 cu) : attr ⟨P, c1, c2, cu⟩ (.ref r) "states" g = .ok (.ref sl) g := att_ref (c := ⟨P, c1, c2, cu⟩) h.ins runner_cls (runner_p (by decide) (by decide) (by decide)) runner_f2 rfl
theorem RunnerAt.a3 (h : RunnerAt g r p sl tl pl items) (c1 c2 cu) : attr ⟨P, c1, c2, cu⟩ (.ref r) "taken_items" g = .ok (.ref tl) g := att_ref (c := ⟨P, c1, c2, cu⟩) h.ins runner_cls (runner_p (by decide) (by decide) (by decide)) runner_f3 rfl
theorem RunnerAt.last (h : RunnerAt g r p sl tl pl items) : getIx (.ref sl) (.int (-1)) g = .ok (stD (Mac.runM pl items)) g := by
  obtain ⟨m, e⟩ := stsM_last pl items
  have hs := h.sts
  rw [e, List.map_append] at hs
  rw [getIx_ref hs]
  show orElse (atI (m.map stD ++ [stD (Mac.runM pl items)]) (-1)) _ = _
  rw [atI_last]
  rfl
theorem RunnerAt.kp {S : List Nat} {g' : G} (h : RunnerAt g r p sl tl pl items) (k : Kp S g g') (h1 : r ∉ S) (h2 : p ∉ S) (h3 : sl ∉ S) (h4 : tl ∉ S) : RunnerAt g' r p sl tl pl items := ⟨k.2 _ _ h1 h.ins, k.2 _ _ h2 h.plan, k.2 _ _ h3 h.sts, k.2 _ _ h4 h.its, h.ne⟩
theorem RunnerAt.gr {g' : G} (h : RunnerAt g r p sl tl pl items) (k : Gr g g') : RunnerAt g' r p sl tl pl items := h.kp (S := []) k.kp (by simp) (by simp) (by simp) (by simp)
theorem rtold_ok (n : Nat) (h : RunnerAt g r p sl tl pl items) : Ok (call P (n + 3) "Runner" "told" [.ref r] g) fun v g' => v = toldD (Mac.toldM (Mac.runM pl items)) ∧ Gr g g' := by
  refine body_run (n := n + 2) fn_rtold rfl ?_
  have hs : stD (Mac.runM pl items) = .tup [otD (Mac.runM pl items).1, otD (Mac.runM pl items).2.1, .bl (Mac.runM pl items).2.2] := rfl
  have hl := h.last
  rw [hs] at hl
  simp [d_Runner_told, exs, exe, ev, evs, h.a2, hl]
  exact told_ok n _ _ g
theorem rtaken_ok (n : Nat) (h : RunnerAt g r p sl tl pl items) (hl : items.length < 1000) : call P (n + 1) "Runner" "taken" [.ref r] g = .ok (.tup (items.map thD)) g := by
  refine call_ok fn_rtaken rfl (δ := [some (.ref r)]) ?_
  have ht : ∀ c, builtin c .tuple [.ref tl] g = .ok (.tup (items.map thD)) g := fun c => by
    show orElse (lsOf g tl) (fun xs => newT xs g) = _
    rw [lsOf_eq h.its, orElse_some, newT_ok (by simp; omega)]
  simp [d_Runner_taken, exs, exe, ev, evs, h.a3, ht]
theorem rover_ok (n : Nat) (h : RunnerAt g r p sl tl pl items) : call P (n + 1) "Runner" "is_over" [.ref r] g = .ok (.bl (Mac.runM pl items).2.2) g := by
  refine call_ok fn_rover rfl (δ := [some (.ref r)]) ?_
  have hs : stD (Mac.runM pl items) = .tup [otD (Mac.runM pl items).1, otD (Mac.runM pl items).2.1, .bl (Mac.runM pl items).2.2] := rfl
  have hl := h.last
  rw [hs] at hl
  simp [d_Runner_is_over, exs, exe, ev, evs, h.a2, hl]
theorem rlen_ok (n : Nat) (h : RunnerAt g r p sl tl pl items) : call P (n + 1) "Runner" "__len__" [.ref r] g = .ok (.int items.length) g := by
  refine call_ok fn_rlen rfl (δ := [some (.ref r)]) ?_
  simp [d_RunnerU_lenU, exs, exe, ev, evs, h.a3, len_ref h.its]
theorem pop_last {g : G} {a : Nat} {m : List D} {x : D} (h : g[a]? = some (.lst (m ++ [x]))) : listM (.ref a) .pop [] g = .ok x (g.set a (.lst m)) := by
  unfold listM
  dsimp only
  rw [h]
  dsimp only
  rw [List.getLast?_append]
  simp
theorem rundo_nil (n : Nat) (h : RunnerAt g r p sl tl pl []) : call P (n + 1) "Runner" "undo" [.ref r] g = .ok (.bl false) g := by
  refine call_ok fn_rundo rfl (δ := [some (.ref r)]) ?_
  have hi := h.its
  simp [d_Runner_undo, exs, exe, ev, evs, h.a3, len_ref hi]
theorem rundo_snoc (n : Nat) {i : Th} (h : RunnerAt g r p sl tl pl (items ++ [i])) : ∃ g', call P (n + 1) "Runner" "undo" [.ref r] g = .ok (.bl true) g' ∧ RunnerAt g' r p sl tl pl items ∧ Kp [sl, tl] g g' := by
  have hi := h.its
  have hs := h.sts
  rw [stsM_snoc, List.map_append] at hs
  rw [List.map_append] at hi
  have p1 := pop_last hs
  let g1 := g.set sl (.lst ((stsM pl items).map stD))
  have hi1 : g1[tl]? = some (.lst (items.map thD ++ [thD i])) := set_ne hi (Ne.symm h.ne)
  have p2 := pop_last hi1
  let g2 := g1.set tl (.lst (items.map thD))
  have r1 : r ≠ sl := fun e => by
    have a := h.ins
    rw [e, hs] at a
    cases a
  have r2 : r ≠ tl := fun e => by
    have a := h.ins
    rw [e, hi] at a
    cases a
  have q1 : p ≠ sl := fun e => by
    have a : g[p]? = _ := h.plan
    rw [e, hs] at a
    cases a
  have q2 : p ≠ tl := fun e => by
    have a : g[p]? = _ := h.plan
    rw [e, hi] at a
    cases a
  have ins1 : g1[r]? = some (.ins "Runner" [("own_plan", .ref p), ("states", .ref sl), ("taken_items", .ref tl)]) := set_ne h.ins r1
  have a3 : ∀ c1 c2 cu, attr ⟨P, c1, c2, cu⟩ (.ref r) "taken_items" g1 = .ok (.ref tl) g1 := fun c1 c2 cu => att_ref (c := ⟨P, c1, c2, cu⟩) ins1 runner_cls (runner_p (by decide) (by decide) (by decide)) runner_f3 rfl
  refine ⟨g2, ?_, ⟨set_ne ins1 r2, set_ne (set_ne h.plan q1) q2, set_ne (get_set hs) h.ne, get_set hi1, h.ne⟩, ((Kp.refl _ g).set (by simp) _).set (by simp) _⟩
  refine call_ok fn_rundo rfl (δ := [some (.ref r)]) ?_
  have p1 : listM (.ref sl) .pop [] g = .ok (stD (Mac.runM pl (items ++ [i]))) g1 := p1
  have hne : ¬ ((items.length : Int) + 1 = 0) := by omega
  simp [d_Runner_undo, exs, exe, ev, evs, h.a3, len_ref hi, h.a2, hne]
  rw [kind_lst (P := P) hs]
  simp [p1, a3]
  rw [kind_lst (P := P) hi1]
  simp [p2]
  rfl
theorem rtake_ok (n : Nat) (h : RunnerAt g r p sl tl pl items) (hb : bkOk 2 pl.blk) {i : Th} (hi : thOk i) (hl : items.length < 1000) :
    Ok (call P (n + 8) "Runner" "take" [.ref r, thD i] g) fun v g' => v = toldD (Mac.toldM (Mac.runM pl (items ++ [i]))) ∧ RunnerAt g' r p sl tl pl (items ++ [i]) ∧ Kp [sl, tl] g g' := by
  refine body_run (n := n + 7) fn_rtake rfl ?_
  have e0 := isitem_ok (n + 4) (thD i) g (th_ask g i)
  rw [th_item hi, show n + 4 + 3 = n + 7 from rfl] at e0
  have h1 := h.gr (.app g [.lst []])
  obtain ⟨v, g1, e1, rfl, gr1⟩ := (step_ok n h1.plan hb (Mac.runM pl items) i (l := []) (by simp) (get_new g (.lst []))).to
  have h2 := h1.gr gr1
  have hs := h2.sts
  have hi2 := h2.its
  have ap1 := app_ref hs (by simp [stsM_len]; omega) (stD (pl.step (Mac.runM pl items) i []))
  let g2 := g1.set sl (.lst ((stsM pl items).map stD ++ [stD (pl.step (Mac.runM pl items) i [])]))
  have r1 : r ≠ sl := fun e => by
    have a := h2.ins
    rw [e, hs] at a
    cases a
  have r2 : r ≠ tl := fun e => by
    have a := h2.ins
    rw [e, hi2] at a
    cases a
  have q1 : p ≠ sl := fun e => by
    have a : g1[p]? = _ := h2.plan
    rw [e, hs] at a
    cases a
  have q2 : p ≠ tl := fun e => by
    have a : g1[p]? = _ := h2.plan
    rw [e, hi2] at a
    cases a
  have ins2 : g2[r]? = some (.ins "Runner" [("own_plan", .ref p), ("states", .ref sl), ("taken_items", .ref tl)]) := set_ne h2.ins r1
  have a3 : ∀ c1 c2 cu, attr ⟨P, c1, c2, cu⟩ (.ref r) "taken_items" g2 = .ok (.ref tl) g2 := fun c1 c2 cu => att_ref (c := ⟨P, c1, c2, cu⟩) ins2 runner_cls (runner_p (by decide) (by decide) (by decide)) runner_f3 rfl
  have hi3 : g2[tl]? = some (.lst (items.map thD)) := set_ne hi2 (Ne.symm h.ne)
  have ap2 := app_ref hi3 (by simp; omega) (thD i)
  let g3 := g2.set tl (.lst (items.map thD ++ [thD i]))
  have h3 : RunnerAt g3 r p sl tl pl (items ++ [i]) := by
    refine ⟨set_ne ins2 r2, set_ne (set_ne h2.plan q1) q2, ?_, ?_, h.ne⟩
    · rw [stsM_snoc, List.map_append, runM_snoc]
      exact set_ne (get_set hs) h.ne
    · rw [List.map_append]
      exact get_set hi3
  have l3 := h3.last
  have hs3 : stD (Mac.runM pl (items ++ [i])) = .tup [otD (Mac.runM pl (items ++ [i])).1, otD (Mac.runM pl (items ++ [i])).2.1, .bl (Mac.runM pl (items ++ [i])).2.2] := rfl
  rw [hs3] at l3
  have kp3 : Kp [sl, tl] g g3 := ((((Gr.app g [.lst []]).trans gr1).kp).set (by simp) _).set (by simp) _
  have ap1 : listM (.ref sl) .append [stD (pl.step (Mac.runM pl items) i [])] g1 = .ok .non g2 := ap1
  have ap2 : listM (.ref tl) .append [thD i] g2 = .ok .non g3 := ap2
  have k1 : kindOf P (.ref sl) "append" g = some .lst := kind_lst h.sts _
  have k2 : kindOf P (.ref tl) "append" g2 = some .lst := kind_lst hi3 _
  simp [d_Runner_take, exs, exe, ev, evs, e0, h.a2, k1, h.a1, h.last, e1, ap1, a3, k2, ap2, h3.a2, l3]
  exact (told_ok (n + 5) (Mac.runM pl (items ++ [i])).1 (Mac.runM pl (items ++ [i])).2.1 g3).mono fun v g' ⟨h4, h5⟩ => ⟨h4, h3.gr h5, kp3.trans h5.kp⟩
theorem runner_make (n : Nat) (f1 : String → String → List D → G → R D) (cu : Option Exn) {a : Nat} (hp : Planned g a pl) : Ok (make ⟨P, f1, call P (n + 4), cu⟩ "Runner" [.ref a] g) fun v g' => v = .ref g.length ∧ Gr g g' ∧ ∃ p sl tl, RunnerAt g' g.length p sl tl pl [] ∧ g.length ≤ sl ∧ g.length ≤ tl := by
  let g0 : G := g ++ [.ins "Runner" []]
  have e0 : g0[g.length]? = some (.ins "Runner" []) := get_new g _
  obtain ⟨k, hk, hp1⟩ := hp g0 (.app _ _)
  obtain ⟨v, g1, e1, p, rfl, gr1, hpl⟩ := (hp1 n).to
  have e1r := gr1.get e0
  let g2 := g1.set g.length (.ins "Runner" [("own_plan", .ref p)])
  have s1 : setFld P (.ref g.length) "own_plan" (.ref p) g1 = .ok () g2 := fld_ref e1r runner_cls runner_f1 (by simp) _
  have e2r : g2[g.length]? = some (.ins "Runner" [("own_plan", .ref p)]) := get_set e1r
  have hpne : p ≠ g.length := fun e => by
    have a : g1[p]? = _ := hpl
    rw [e, e1r] at a
    injection a with a
    injection a with a1 _
    exact absurd a1 (by decide)
  have hl2 : g.length < g2.length := get_lt e2r
  let g3 := g2 ++ [.lst [.tup [.non, .non, .bl false]]]
  have e3r : g3[g.length]? = some (.ins "Runner" [("own_plan", .ref p)]) := get_app e2r _
  let g4 := g3.set g.length (.ins "Runner" [("own_plan", .ref p), ("states", .ref g2.length)])
  have s2 : setFld P (.ref g.length) "states" (.ref g2.length) g3 = .ok () g4 := fld_ref e3r runner_cls runner_f2 (by simp) _
  have e4r : g4[g.length]? = some (.ins "Runner" [("own_plan", .ref p), ("states", .ref g2.length)]) := get_set e3r
  let g5 := g4 ++ [.lst []]
  have e5r : g5[g.length]? = some (.ins "Runner" [("own_plan", .ref p), ("states", .ref g2.length)]) := get_app e4r _
  let g6 := g5.set g.length (.ins "Runner" [("own_plan", .ref p), ("states", .ref g2.length), ("taken_items", .ref g4.length)])
  have s3 : setFld P (.ref g.length) "taken_items" (.ref g4.length) g5 = .ok () g6 := fld_ref e5r runner_cls runner_f3 (by simp) _
  have hl4 : g4.length = g2.length + 1 := by simp [g4, g3]
  have n1 : newL [D.tup [.non, .non, .bl false]] g2 = .ok (.ref g2.length) g3 := newL_1 _ _
  have n2 : newL [] g4 = .ok (.ref g4.length) g5 := newL_n _
  have main : call P (n + 4) "Runner" "__init__" [.ref g.length, .ref a] g0 = .ok .non g6 := by
    rw [call_fn fn_rinit, runF_eq (by rfl)]
    have e1 : call P (n + 3) k "plan" [.ref a] g0 = .ok (.ref p) g1 := e1
    generalize hg0 : g0 = x0 at hk e1
    generalize hg2 : g2 = x2 at s1 n1 s2
    generalize hg4 : g4 = x4 at s2 n2 s3
    simp only [d_RunnerU_initU, exs, exe, ev, evs, con_start]
    simp only [bind_ok, List.getElem?_cons_zero, List.getElem?_cons_succ, List.map_cons, List.map_nil, List.cons_append, List.nil_append, hk, e1, s1, n1, s2, n2, s3]
  have gr2 : Gr g g2 := ((Gr.app g _).trans gr1).set (Nat.le_refl _) _
  have gr4 : Gr g g4 := (gr2.trans (.app _ _)).set (Nat.le_refl _) _
  have gr6 : Gr g g6 := (gr4.trans (.app _ _)).set (Nat.le_refl _) _
  unfold make
  rw [if_pos runner_cls]
  show Ok ((call P (n + 4) "Runner" "__init__" [.ref g.length, .ref a] g0).bind _) _
  rw [main]
  refine ⟨rfl, gr6, p, g2.length, g4.length, ⟨get_set e5r, ?_, ?_, ?_, by omega⟩, by omega, by omega⟩
  · exact set_ne (get_app (set_ne (get_app (set_ne hpl hpne) _) hpne) _) hpne
  · exact set_ne (get_app (set_ne (get_new g2 _) (by omega)) _) (by omega)
  · exact set_ne (get_new g4 _) (by omega)
end
end UkW
end
section
set_option Elab.async false
set_option linter.all false
set_option maxRecDepth 100000
set_option autoImplicit false
set_option maxHeartbeats 1000000
namespace UkW
open Uk
open Mac (Wo Th Ot Nm Bs Pv Vl Wd Ts Sm Bk Man)
/-! ## A runner is led -/
theorem Ok_noX {α : Type} {r : R α} {Q : α → G → Prop} (h : Ok r Q) : Ok (noX r) Q := by
  cases r with
  | ok a g => exact h
  | exc _ _ => exact h.elim
  | bad => exact h.elim
theorem att_prop {c : Cx} {g : G} {a : Nat} {k f : String} {fs : List (String × D)} (h : g[a]? = some (.ins k fs)) (hc : c.P.cls k = true) (hp : c.P.prop k f = true) : attr c (.ref a) f g = noX (c.call1 k f [.ref a] g) := by
  unfold attr
  dsimp only
  rw [h]
  dsimp only
  rw [hc, hp]
  rfl
section
variable {g : G} {r p sl tl : Nat} {pl : Mac.Plan} {items : List Th}
theorem RunnerAt.told (h : RunnerAt g r p sl tl pl items) (n : Nat) (c1 cu) : ∃ g', Gr g g' ∧ attr ⟨P, c1, call P (n + 3), cu⟩ (.ref r) "told" g = .ok (toldD (Mac.toldM (Mac.runM pl items))) g' := by
  rw [att_prop (c := ⟨P, c1, call P (n + 3), cu⟩) h.ins runner_cls (by rfl)]
  obtain ⟨v, g', e, rfl, q⟩ := (rtold_ok n h).to
  refine ⟨g', q, ?_⟩
  show noX (call P (n + 3) "Runner" "told" [.ref r] g) = _
  rw [e]
  rfl
theorem RunnerAt.taken (h : RunnerAt g r p sl tl pl items) (hl : items.length < 1000) (n : Nat) (c1 cu) : attr ⟨P, c1, call P (n + 1), cu⟩ (.ref r) "taken" g = .ok (.tup (items.map thD)) g := by
  rw [att_prop (c := ⟨P, c1, call P (n + 1), cu⟩) h.ins runner_cls (by rfl)]
  show noX (call P (n + 1) "Runner" "taken" [.ref r] g) = _
  rw [rtaken_ok n h hl]
  rfl
theorem RunnerAt.over (h : RunnerAt g r p sl tl pl items) (n : Nat) (c1 cu) : attr ⟨P, c1, call P (n + 1), cu⟩ (.ref r) "is_over" g = .ok (.bl (Mac.runM pl items).2.2) g := by
  rw [att_prop (c := ⟨P, c1, call P (n + 1), cu⟩) h.ins runner_cls (by rfl)]
  show noX (call P (n + 1) "Runner" "is_over" [.ref r] g) = _
  rw [rover_ok n h]
  rfl
theorem RunnerAt.kind (h : RunnerAt g r p sl tl pl items) {m : String} (h1 : m ≠ "own_plan") (h2 : m ≠ "states") (h3 : m ≠ "taken_items") (h4 : m ≠ "told") (h5 : m ≠ "taken") (h6 : m ≠ "is_over") (hm : (P.fn "Runner" m).isSome = true) : kindOf P (.ref r) m g = some (.ins "Runner") := by
  refine kind_ins h.ins ?_ runner_cls (runner_p h4 h5 h6) hm
  simp [lookF, Ne.symm h1, Ne.symm h2, Ne.symm h3]
theorem RunnerAt.len (h : RunnerAt g r p sl tl pl items) (hl : items.length < 1000) (n : Nat) (c1 cu) : builtin ⟨P, c1, call P (n + 1), cu⟩ .len [.ref r] g = .ok (.int items.length) g := by
  show lenOf ⟨P, c1, call P (n + 1), cu⟩ (.ref r) g = _
  unfold lenOf
  dsimp only
  rw [h.ins]
  dsimp only
  rw [if_pos (by rfl), rlen_ok n h]
  show (if 0 ≤ (items.length : Int) ∧ (items.length : Int) ≤ line then R.ok (D.int items.length) g else .bad) = _
  rw [if_pos ⟨by omega, by simp; omega⟩]
end
/-! ### equal things -/
theorem told_eql (n : Nat) (t : Option Wo × Option Wo × Bool) : Eql (n + 2) (toldD t) := by
  refine equal_tup (n + 1) _ (by simp) fun x hx => ?_
  simp at hx
  have hw : ∀ w : Option Wo, (wordD w).dep = 0 := fun w => by
    cases w with
    | none => rfl
    | some w => cases w <;> rfl
  rcases hx with rfl | rfl | rfl
  · exact equal_0 n _ (hw _)
  · exact equal_0 n _ (hw _)
  · exact equal_0 n _ rfl
theorem told_okd (t : Option Wo × Option Wo × Bool) : (toldD t).ok = true := by
  obtain ⟨a, b, c⟩ := t
  cases a with
  | none =>
    cases b with
    | none => rfl
    | some b => cases b <;> rfl
  | some a =>
    cases b with
    | none => cases a <;> rfl
    | some b => cases a <;> cases b <;> rfl
theorem items_ok (items : List Th) : (D.tup (items.map thD)).ok = true := by
  refine decide_eq_true ?_
  have : D.deps (items.map thD) ≤ 5 := by
    induction items with
    | nil => simp [D.deps]
    | cons t r ih =>
      obtain ⟨w, m⟩ := t
      have hw : (woD w).dep = 0 := by cases w <;> rfl
      simp only [List.map_cons, D.deps, thD, D.dep, hw]
      omega
  unfold D.dep
  omega
theorem some_nm {t : Th} (h : SomeOk t) : itemNm nm0 t := nm0_item t h.1.1 (by have := h.2; omega)
theorem fn_led : P.fn "" "_law_led" = some d__law_led := by rfl
def ledBody1 : Ss := .c (.ex (.call "_law_take" (.c (.loc 1) (.c (.loc 4) (.c (.ix (.loc 2) (.loc 5)) (.c (.cst (.str "item")) .n))))))
 (.c (.ife (.or_ (.not_ (.call "_law_equal" (.c (.met (.loc 3) "take" (.c (.ix (.loc 2) (.loc 5)) .n)) (.c (.call "_law_told" (.c (.loc 4) .n)) .n)))) (.not_ (.call "_law_equal" (.c (.att (.loc 3) "told") (.c (.call "_law_told" (.c (.loc 4) .n)) .n))))) (.c (.ret (.cst (.bl false))) .n) .n)
 (.c (.ife (.or_ (.cmp .ne (.att (.loc 3) "is_over") (.ix (.loc 4) (.cst (.str "over")))) (.or_ (.cmp .ne (.att (.loc 3) "taken") (.cut (.loc 2) (.cst .non) (.bin .add (.loc 5) (.cst (.int 1))))) (.cmp .ne (.bi .len (.c (.loc 3) .n)) (.bin .add (.loc 5) (.cst (.int 1)))))) (.c (.ret (.cst (.bl false))) .n) .n) .n))
def ledBody2 : Ss := .c (.ife (.or_ (.not_ (.met (.loc 3) "undo" .n)) (.not_ (.call "_law_equal" (.c (.att (.loc 3) "told") (.c (.call "_law_run" (.c (.loc 1) (.c (.cut (.loc 2) (.cst .non) (.bin .sub (.loc 5) (.cst (.int 1)))) (.c (.cst (.str "item")) .n)))) .n))))) (.c (.ret (.cst (.bl false))) .n) .n) .n
theorem led_body : d__law_led.body = .c (.asg 3 (.mk "Runner" (.c (.loc 0) .n))) (.c (.asg 4 (.call "_law_begin" .n)) (.c (.for_ (.one 5) (.r1 (.bi .len (.c (.loc 2) .n))) ledBody1) (.c (.for_ (.one 5) (.r3 (.bi .len (.c (.loc 2) .n)) (.cst (.int 0)) (.neg (.cst (.int 1)))) ledBody2) (.c (.ret (.and_ (.not_ (.met (.loc 3) "undo" .n)) (.cmp .eq (.att (.loc 3) "taken") (.tup .n)))) .n)))) := by rfl
theorem get_th {items : List Th} {k : Nat} (h : k < items.length) (g : G) : getIx (.tup (items.map thD)) (.int (k : Int)) g = .ok (thD items[k]) g := by
  have := getIx_nat (xs := items.map thD) (i := k) (by simpa using h) g
  simpa using this
theorem cut_th {items : List Th} (k : Nat) (h : k ≤ items.length) (hl : items.length < 1000) (g : G) : getCut (.tup (items.map thD)) none (some (k : Int)) g = .ok (.tup ((items.take k).map thD)) g := by
  have e : sIxE (items.map thD).length (items.map thD).length (some (k : Int)) = k := by
    unfold sIxE
    dsimp only
    rw [if_neg (by omega)]
    simp
    omega
  show newT (cutL (items.map thD) 0 (sIxE (items.map thD).length (items.map thD).length (some (k : Int)))) g = _
  rw [e]
  have e2 : cutL (items.map thD) 0 k = (items.take k).map thD := by
    unfold cutL
    simp
  rw [e2]
  exact newT_ok (by simp; omega) g
theorem led_turn1 (n : Nat) {b : Bk} (hb : bkOk 2 b) {items : List Th} (hi : ∀ t ∈ items, SomeOk t) (hl : items.length < 900) {k : Nat} (hk : k < items.length) {g : G} {r p sl tl s : Nat} (x0 : Option D) (h : RunnerAt g r p sl tl ⟨b, false, false⟩ (items.take k)) (q : g[s]? = some (lO nm0 (Mac.lawRun b .item (items.take k)))) :
    Ok (exs ⟨P, call P (n + 11), call P (n + 10), none⟩ ledBody1 [x0, some (.tup (bkD b)), some (.tup (items.map thD)), some (.ref r), some (.ref s), some (.int (k : Int))] g) fun z g' => z = ([x0, some (.tup (bkD b)), some (.tup (items.map thD)), some (.ref r), some (.ref s), some (.int (k : Int))], .nx) ∧ RunnerAt g' r p sl tl ⟨b, false, false⟩ (items.take (k + 1)) ∧ g'[s]? = some (lO nm0 (Mac.lawRun b .item (items.take (k + 1)))) ∧ Kp [s, sl, tl] g g' := by
  have e0 := fun g => get_th hk g
  have hik : SomeOk items[k] := hi _ (List.getElem_mem hk)
  have low : (Mac.lawRun b .item (items.take k)).low ≤ -1 := (Mac.sim_same b (items.take k) fun t ht => (hi t (List.mem_of_mem_take ht)).1.1).low
  have t1 := ltake_ok nm0_ok nm0_one (n + 4) hb .item low q items[k] (some_nm hik)
  rw [show n + 4 + 2 + 5 = n + 11 from rfl] at t1
  have hlr : Mac.lawTake b .item items[k] (Mac.lawRun b .item (items.take k)) = Mac.lawRun b .item (items.take (k + 1)) := by
    rw [take_next hk]
    unfold Mac.lawRun
    rw [List.foldl_append]
    rfl
  rw [hlr] at t1
  have hsr : r ≠ s := fun e => by
    have a := h.ins
    rw [e, q] at a
    cases a
  have hsp : p ≠ s := fun e => by
    have a : g[p]? = _ := h.plan
    rw [e, q] at a
    cases a
  have hss : sl ≠ s := fun e => by
    have a := h.sts
    rw [e, q] at a
    cases a
  have hst : tl ≠ s := fun e => by
    have a := h.its
    rw [e, q] at a
    cases a
  let g1 := g.set s (lO nm0 (Mac.lawRun b .item (items.take (k + 1))))
  have kp1 : Kp [s, sl, tl] g g1 := (Kp.refl _ g).set (by simp) _
  have h1 : RunnerAt g1 r p sl tl ⟨b, false, false⟩ (items.take k) := ⟨set_ne h.ins hsr, set_ne h.plan hsp, set_ne h.sts hss, set_ne h.its hst, h.ne⟩
  have q1 : g1[s]? = some (lO nm0 (Mac.lawRun b .item (items.take (k + 1)))) := get_set q
  obtain ⟨v, g2, e2, rfl, h2, kp2⟩ := (rtake_ok (n + 3) h1 hb (i := items[k]) hik.1 (by simp; omega)).to
  rw [← take_next hk] at e2 h2
  have q2 := kp2.2 s _ (by simp [Ne.symm hss, Ne.symm hst]) q1
  obtain ⟨v, g3, e3, rfl, gr3⟩ := (ltold_ok nm0_ok (n + 10) q2).to
  have sim := Mac.told_same b (items.take (k + 1)) fun t ht => (hi t (List.mem_of_mem_take ht)).1.1
  rw [← sim] at e3
  obtain ⟨v, g4, e4, rfl, gr4⟩ := ((told_eql (n + 9) (Mac.toldM (Mac.runM ⟨b, false, false⟩ (items.take (k + 1))))) g3).to
  have h4 := h2.gr (gr3.trans gr4)
  obtain ⟨g5, gr5, e5⟩ := h4.told (n + 7) (call P (n + 11)) none
  have q5 := gr5.get (gr4.get (gr3.get q2))
  obtain ⟨v, g6, e6, rfl, gr6⟩ := (ltold_ok nm0_ok (n + 10) q5).to
  rw [← sim] at e6
  obtain ⟨v, g7, e7, rfl, gr7⟩ := ((told_eql (n + 9) (Mac.toldM (Mac.runM ⟨b, false, false⟩ (items.take (k + 1))))) g6).to
  have gr47 := (gr5.trans gr6).trans gr7
  have h7 := h4.gr gr47
  have q7 := gr7.get (gr6.get q5)
  have a1 := h7.over (n + 9) (call P (n + 11)) none
  have a2 := h7.taken (by simp; omega) (n + 9) (call P (n + 11)) none
  have a3 := h7.len (by simp; omega) (n + 9) (call P (n + 11)) none
  have o7 := lover q7
  have ov : (Mac.runM ⟨b, false, false⟩ (items.take (k + 1))).2.2 = (Mac.lawRun b .item (items.take (k + 1))).over := (Mac.sim_same b (items.take (k + 1)) fun t ht => (hi t (List.mem_of_mem_take ht)).1.1).over
  have cu := fun g => cut_th (items := items) (k + 1) (by omega) (by omega) g
  have km := h1.kind (m := "take") (by decide) (by decide) (by decide) (by decide) (by decide) (by decide) (by rfl)
  have lk : ((items.take (k + 1)).length : Int) = (k : Int) + 1 := by simp; omega
  have et := items_ok (items.take (k + 1))
  have ne1 : ∀ c, cmpop c .ne (.tup ((items.take (k + 1)).map thD)) (.tup ((items.take (k + 1)).map thD)) g7 = .ok (.bl false) g7 := fun c => by
    rw [ne_data c et et, eqv_refl _ et]
    rfl
  have cu : ∀ g, getCut (.tup (items.map thD)) none (some ((k : Int) + 1)) g = .ok (.tup ((items.take (k + 1)).map thD)) g := cu
  refine Ok.mono (Q := fun z g' => z = ([x0, some (.tup (bkD b)), some (.tup (items.map thD)), some (.ref r), some (.ref s), some (.int (k : Int))], .nx) ∧ g' = g7) ?_ ?_
  · rw [show n + 3 + 8 = n + 11 from rfl] at e2
    rw [show n + 10 + 1 = n + 11 from rfl] at e3 e6
    rw [show n + 9 + 2 = n + 11 from rfl] at e4 e7
    rw [show n + 7 + 3 = n + 10 from rfl] at e5
    rw [show n + 9 + 1 = n + 10 from rfl] at a1 a2 a3
    rw [lk] at a3
    have t1 : call P (n + 11) "" "_law_take" [.tup (bkD b), .ref s, thD items[k], .str "item"] g = .ok .non g1 := t1
    generalize hg1 : g1 = y1 at t1 km e2
    generalize items[k] = it at e0 t1 e2
    generalize items.take (k + 1) = its at e2 e3 e4 e5 e6 e7 a1 a2 ne1 cu ov o7
    generalize toldD (Mac.toldM (Mac.runM ⟨b, false, false⟩ its)) = td at e2 e3 e4 e5 e6 e7
    simp [ledBody1, exs, exe, ev, evs, e0, t1, km, e2, e3, e4, e5, e6, e7, a1, a2, a3, o7, ov, cu, ne1]
  · rintro _ _ ⟨rfl, rfl⟩
    refine ⟨rfl, h7, q7, kp1.trans ?_⟩
    have : Kp [s, sl, tl] g1 g2 := ⟨kp2.1, fun j o hj ho => kp2.2 j o (fun hm => hj (List.mem_cons_of_mem _ hm)) ho⟩
    exact this.trans ((gr3.trans gr4).trans gr47).kp
theorem led_turn2 (n : Nat) {b : Bk} (hb : bkOk 2 b) {items : List Th} (hi : ∀ t ∈ items, SomeOk t) (hl : items.length < 900) {k : Nat} (hk : k < items.length) {g : G} {r p sl tl : Nat} (x0 x4 : Option D) (h : RunnerAt g r p sl tl ⟨b, false, false⟩ (items.take (k + 1))) :
    Ok (exs ⟨P, call P (n + 11), call P (n + 10), none⟩ ledBody2 [x0, some (.tup (bkD b)), some (.tup (items.map thD)), some (.ref r), x4, some (.int ((k : Int) + 1))] g) fun z g' => z = ([x0, some (.tup (bkD b)), some (.tup (items.map thD)), some (.ref r), x4, some (.int ((k : Int) + 1))], .nx) ∧ RunnerAt g' r p sl tl ⟨b, false, false⟩ (items.take k) ∧ ∀ s, Kp [s, sl, tl] g g' := by
  rw [take_next hk] at h
  obtain ⟨g1, e1, h1, kpu⟩ := rundo_snoc (n + 10) h
  obtain ⟨g2, gr2, e2⟩ := h1.told (n + 7) (call P (n + 11)) none
  have hi2 : ∀ t ∈ items.take k, SomeOk t := fun t ht => hi t (List.mem_of_mem_take ht)
  obtain ⟨v, g3, e3, rfl, gr3⟩ := (lrun_ok nm0_ok nm0_one (n + 3) hb .item g2 (items.take k) (fun t ht => some_nm (hi2 t ht))).to
  have sim := Mac.told_same b (items.take k) fun t ht => (hi2 t ht).1.1
  rw [← sim] at e3
  obtain ⟨v, g4, e4, rfl, gr4⟩ := ((told_eql (n + 9) (Mac.toldM (Mac.runM ⟨b, false, false⟩ (items.take k)))) g3).to
  have km := h.kind (m := "undo") (by decide) (by decide) (by decide) (by decide) (by decide) (by decide) (by rfl)
  have cu := fun g => cut_th (items := items) k (by omega) (by omega) g
  refine Ok.mono (Q := fun z g' => z = ([x0, some (.tup (bkD b)), some (.tup (items.map thD)), some (.ref r), x4, some (.int ((k : Int) + 1))], .nx) ∧ g' = g4) ?_ ?_
  · rw [show n + 10 + 1 = n + 11 from rfl] at e1
    rw [show n + 7 + 3 = n + 10 from rfl] at e2
    rw [show n + 3 + 2 + 6 = n + 11 from rfl] at e3
    rw [show n + 9 + 2 = n + 11 from rfl] at e4
    have e3 : call P (n + 11) "" "_law_run" [.tup (bkD b), .tup ((items.take k).map thD), .str "item"] g2 = _ := e3
    have ek : (k : Int) + 1 - 1 = (k : Int) := by omega
    generalize items.take k = its at e2 e3 e4 cu
    generalize toldD (Mac.toldM (Mac.runM ⟨b, false, false⟩ its)) = td at e2 e3 e4
    simp [ledBody2, exs, exe, ev, evs, km, e1, e2, e3, e4, cu, ek]
  · rintro _ _ ⟨rfl, rfl⟩
    exact ⟨rfl, h1.gr ((gr2.trans gr3).trans gr4), fun s => (show Kp [s, sl, tl] g g1 from ⟨kpu.1, fun j o hj ho => kpu.2 j o (fun hm => hj (List.mem_cons_of_mem _ hm)) ho⟩).trans ((gr2.trans gr3).trans gr4).kp⟩
theorem rng3_ok (m : Nat) (h : m < 1000) : rng3 (.int m) (.int 0) (.int (-1)) = some (m, .rng m (-1)) := by
  have e : rng3 (.int m) (.int 0) (.int (-1)) = if (m : Int).natAbs / 1073741824 = 0 ∧ (0 : Int).natAbs / 1073741824 = 0 then some (((m : Int) - 0).toNat, .rng m (-1)) else none := rfl
  rw [e, if_pos ⟨by omega, by decide⟩]
  simp
theorem item_down {m i n : Nat} (h : i < n) (g : G) : (Wk.rng m (-1)).item n i g = some (some (.int ((m : Int) - i))) := by
  show some (if i < n then some (D.int ((m : Int) + -1 * i)) else none) = _
  rw [if_pos h]
  congr 3
  omega
theorem item_down_end {m n : Nat} (g : G) : (Wk.rng m (-1)).item n n g = some none := by
  show some (if n < n then _ else none) = _
  rw [if_neg (Nat.lt_irrefl _)]
theorem led_ok (n : Nat) {b : Bk} (hb : bkOk 2 b) {items : List Th} (hi : ∀ t ∈ items, SomeOk t) (hl : items.length < 900) {g : G} {a : Nat} (h : Planned g a ⟨b, false, false⟩) :
    Ok (call P (n + 12) "" "_law_led" [.ref a, .tup (bkD b), .tup (items.map thD)] g) fun v g' => v = .bl true ∧ Kp [] g g' := by
  refine body_run (n := n + 11) fn_led rfl ?_
  obtain ⟨v, g1, e1, rfl, gr1, p, sl, tl, h1, hsl, htl⟩ := (runner_make (n + 6) (call P (n + 11)) none h).to
  have e2 := lbegin_ok (nm := nm0) (n + 10) g1
  let g2 := g1 ++ [lO nm0 Mac.begin0]
  have h2 : RunnerAt g2 g.length p sl tl ⟨b, false, false⟩ [] := h1.gr (.app _ _)
  have q2 : g2[g1.length]? = some (lO nm0 Mac.begin0) := get_new _ _
  have hlen : (items.map thD).length = items.length := by simp
  have hr : rng1 (.int (items.length : Int)) = some (items.length, .rng 0 1) := rng1_ok _ (by omega)
  have hr3 := rng3_ok items.length (by omega)
  have kp2 : Kp [g1.length, sl, tl] g g2 := (gr1.trans (.app g1 [lO nm0 Mac.begin0])).kp
  have kpn : ∀ g', Kp [g1.length, sl, tl] g g' → Kp [] g g' := fun g' k => k.new (by
    have := gr1.len
    intro i hi
    simp at hi
    rcases hi with rfl | rfl | rfl <;> omega)
  rw [led_body]
  rw [show n + 10 + 1 = n + 11 from rfl] at e2
  rw [show n + 6 + 4 = n + 10 from rfl] at e1
  simp [exs, exe, ev, evs, evI, e1, e2, hr]
  refine Ok.mono (for_inv (fun k δ g' => (∃ x5, δ = [some (.ref a), some (.tup (bkD b)), some (.tup (items.map thD)), some (.ref g.length), some (.ref g1.length), x5]) ∧ RunnerAt g' g.length p sl tl ⟨b, false, false⟩ (items.take k) ∧ g'[g1.length]? = some (lO nm0 (Mac.lawRun b .item (items.take k))) ∧ Kp [g1.length, sl, tl] g g') (fun _ _ => False) ?step ?stop items.length 0 _ _ (by simp) ⟨⟨_, rfl⟩, h2, q2, kp2⟩) ?fin
  case stop => exact fun δ g' _ => item_rng_end g'
  case step =>
    rintro k _ g3 hk ⟨⟨x5, rfl⟩, h3, q3, kp3⟩
    refine ⟨_, _, item_rng hk g3, rfl, ?_⟩
    refine (led_turn1 n hb hi hl hk _ h3 q3).mono ?_
    rintro _ g4 ⟨rfl, h4, q4, kp4⟩
    exact ⟨⟨_, rfl⟩, h4, q4, kp3.trans kp4⟩
  case fin =>
    rintro ⟨e, f⟩ g3 hz
    cases f with
    | rt d => exact hz.elim
    | nx =>
      obtain ⟨⟨x5, rfl⟩, h3, q3, kp3⟩ := hz
      simp [hr3]
      refine Ok.mono (for_inv (fun k δ g' => (∃ x5, δ = [some (.ref a), some (.tup (bkD b)), some (.tup (items.map thD)), some (.ref g.length), some (.ref g1.length), x5]) ∧ RunnerAt g' g.length p sl tl ⟨b, false, false⟩ (items.take (items.length - k)) ∧ Kp [g1.length, sl, tl] g g') (fun _ _ => False) ?step2 ?stop2 items.length 0 _ _ (by simp) ⟨⟨_, rfl⟩, h3, kp3⟩) ?fin2
      case stop2 => exact fun δ g' _ => item_down_end g'
      case step2 =>
        rintro k _ g4 hk ⟨⟨x5, rfl⟩, h4, kp4⟩
        refine ⟨_, _, item_down hk g4, rfl, ?_⟩
        obtain ⟨m, hm⟩ : ∃ m, items.length = m + 1 + k := ⟨items.length - k - 1, by omega⟩
        have e3 : ((items.length : Int) - (k : Int)) = (m : Int) + 1 := by omega
        have e4 : items.length - k = m + 1 := by omega
        have e5 : items.length - (k + 1) = m := by omega
        rw [e4] at h4
        rw [e3, e5]
        refine (led_turn2 n hb hi hl (k := m) (by omega) (g := g4) (some (.ref a)) (some (.ref g1.length)) h4).mono ?_
        rintro _ g5 ⟨rfl, h5, kp5⟩
        exact ⟨⟨_, rfl⟩, h5, kp4.trans (kp5 _)⟩
      case fin2 =>
        rintro ⟨e, f⟩ g4 hz
        cases f with
        | rt d => exact hz.elim
        | nx =>
          obtain ⟨⟨x5, rfl⟩, h4, kp4⟩ := hz
          rw [Nat.sub_self] at h4
          have h4 : RunnerAt g4 g.length p sl tl ⟨b, false, false⟩ [] := h4
          have u1 := rundo_nil (n + 10) h4
          rw [show n + 10 + 1 = n + 11 from rfl] at u1
          have km := h4.kind (m := "undo") (by decide) (by decide) (by decide) (by decide) (by decide) (by decide) (by rfl)
          have a2 := h4.taken (by simp) (n + 9) (call P (n + 11)) none
          rw [show n + 9 + 1 = n + 10 from rfl] at a2
          have a2 : attr ⟨P, call P (n + 11), call P (n + 10), none⟩ (.ref g.length) "taken" g4 = .ok (.tup []) g4 := a2
          have eq0 : ∀ c, cmpop c .eq (.tup []) (.tup []) g4 = .ok (.bl true) g4 := fun c => by
            rw [eq_data c (by rfl) (by rfl)]
            simp
          simp [km, u1, a2, eq0]
          exact kpn _ kp4
end UkW
end
section
set_option Elab.async false
set_option linter.all false
set_option maxRecDepth 100000
set_option autoImplicit false
set_option maxHeartbeats 1000000
namespace UkW
open Uk
open Mac (Wo Th Ot Nm Bs Pv Vl Wd Ts Sm Bk Man)
/-! ## What is refused -/
theorem fn_refused : P.fn "" "_law_refused" = some d__law_refused := by rfl
theorem run_bad (n : Nat) (g : G) (x0 x : D) (i : Int) (h : call P (n + 7) "" "need_items" [x] g = .exc ⟨"InvalidItems", [("index", .int i)]⟩ g) : call P (n + 8) "" "run" [x0, x] g = .exc ⟨"InvalidItems", [("index", .int i)]⟩ g := by
  rw [call_fn (n := n + 7) fn_run, runF_eq (by rfl), run_body]
  simp [exs, exe, ev, evs, h]
theorem refused_of (n : Nat) (g : G) (x0 x : D) (i : Int) (h : call P (n + 7) "" "need_items" [x] g = .exc ⟨"InvalidItems", [("index", .int i)]⟩ g) : call P (n + 9) "" "_law_refused" [x0, x] g = .ok (.int i) g := by
  have c5 : P.exn "InvalidItems" = some (some "index") := by rfl
  have e1 := run_bad n g x0 x i h
  rw [call_fn (n := n + 8) fn_refused, runF_eq (by rfl)]
  simp [d__law_refused, exs, exe, ev, evs, e1, exh, c5, unO, lookF]
theorem need_bad (n : Nat) (g : G) (r : List D) (h : ∀ x ∈ r, AskR g x) (j : Nat) (hj : firstBad 0 r = some j) : call P (n + 4) "" "need_items" [.tup r] g = .exc ⟨"InvalidItems", [("index", .int (j : Nat))]⟩ g := by
  have h1 := need_ok n g r h
  cases hm : call P (n + 4) "" "need_items" [.tup r] g with
  | bad => rw [hm] at h1; exact h1.elim
  | ok v g' =>
    rw [hm] at h1
    obtain ⟨_, _, e⟩ := h1
    rw [hj] at e
    cases e
  | exc x g' =>
    rw [hm] at h1
    obtain ⟨rfl, k, e, rfl⟩ := h1
    rw [hj] at e
    cases e
    rfl
/-! ## Frames -/
theorem ds_ne {l : List D} {r : List Row} (h : Ds l) : l ≠ r.map rowD := by
  obtain ⟨a, b, t, rfl⟩ := h
  intro e
  cases r with
  | nil => cases e
  | cons x r => cases e
theorem LoopT.fr {g g' : G} {a i : Nat} {b : Bk} (h : LoopT g a b) (hd : Rd g i) (k : Fr i g g') : LoopT g' a b := by
  obtain ⟨j, e1, e2⟩ := h
  obtain ⟨l, el, hl⟩ := hd
  refine ⟨j, k.2.1 a _ (fun e => ?_) e1, k.2.1 j _ (fun e => ?_) e2⟩
  · rw [e, el] at e1
    cases e1
  · rw [e, el] at e2
    injection e2 with e2
    injection e2 with e2
    exact ds_ne hl e2
theorem LoopT.kp {g g' : G} {a : Nat} {b : Bk} (h : LoopT g a b) (k : Kp [] g g') : LoopT g' a b := LoopAt.mono h fun j o e => k.2 j o (by simp) e
theorem Rd.kp {g g' : G} {i : Nat} (h : Rd g i) (k : Kp [] g g') : Rd g' i := let ⟨l, e, d⟩ := h; ⟨l, k.2 _ _ (by simp) e, d⟩
/-! ## The law -/
theorem fn_law : P.fn "" "law" = some d_law := by rfl
def badL (a : Nat) : List D := [.non, .tup [.int 4, .int 0], .tup [.str "even", .int 0], .tup [.int 1], .tup [.int 1, .int (-1)], .tup [.bl true, .int 0], .tup [.int 1, .bl true], .ref a, .tup [.non, .int 0], .int 2]
theorem badL_bad {a : Nat} {x : D} (h : x ∈ badL a) : itemB x = false := by
  simp [badL] at h
  rcases h with rfl | rfl | rfl | rfl | rfl | rfl | rfl | rfl | rfl | rfl <;> simp [itemB, worthB, markB]
theorem badL_ask {g : G} {a : Nat} {l : List D} (ha : g[a]? = some (.lst l)) {x : D} (h : x ∈ badL a) : AskR g x := by
  simp [badL] at h
  have two : ∀ y z : D, y.dep = 0 → z.dep = 0 → AskR g (.tup [y, z]) := fun y z hy hz => .inr (.inl ⟨_, rfl, by
    intro u hu
    simp at hu
    rcases hu with rfl | rfl
    · exact hy
    · exact hz⟩)
  rcases h with rfl | rfl | rfl | rfl | rfl | rfl | rfl | rfl | rfl | rfl
  · exact .inl rfl
  · exact two _ _ rfl rfl
  · exact two _ _ rfl rfl
  · exact .inr (.inl ⟨_, rfl, by simp [D.dep]⟩)
  · exact two _ _ rfl rfl
  · exact two _ _ rfl rfl
  · exact two _ _ rfl rfl
  · exact .inr (.inr ⟨a, l, rfl, ha⟩)
  · exact two _ _ rfl rfl
  · exact .inl rfl
def othersE : E := .bi .tuple (.c (.comp [7, 8] (.tup (.c (.loc 7) (.c (.bin .sub (.cst (.int 100)) (.bin .mul (.cst (.int 7)) (.loc 8))) .n))) (.many [7, 8]) (.seq (.loc 5)) (.cst (.bl true))) .n)
def badE : E := .call "_law_pick" (.c (.loc 1) (.c (.lst (.c (.cst .non) (.c (.tup (.c (.cst (.int 4)) (.c (.cst (.int 0)) .n))) (.c (.tup (.c (.cst (.str "even")) (.c (.cst (.int 0)) .n))) (.c (.tup (.c (.cst (.int 1)) .n)) (.c (.tup (.c (.cst (.int 1)) (.c (.neg (.cst (.int 1))) .n))) (.c (.tup (.c (.cst (.bl true)) (.c (.cst (.int 0)) .n))) (.c (.tup (.c (.cst (.int 1)) (.c (.cst (.bl true)) .n))) (.c (.lst (.c (.cst (.int 1)) (.c (.cst (.int 0)) .n))) (.c (.tup (.c (.cst .non) (.c (.cst (.int 0)) .n))) (.c (.cst (.int 2)) .n))))))))))) .n))
def lapT2 : Ss := .c (.asg 10 badE)
 (.c (.asg 11 (.call "_law_below" (.c (.loc 1) (.c (.bin .add (.bi .len (.c (.loc 5) .n)) (.cst (.int 1))) .n))))
 (.c (.ife (.cmp .ne (.call "_law_refused" (.c (.loc 4) (.c (.bin .add (.bin .add (.bin .add (.cut (.loc 5) (.cst .non) (.loc 11)) (.tup (.c (.loc 10) .n))) (.cut (.loc 5) (.loc 11) (.cst .non))) (.tup (.c (.cst (.int 7)) .n))) .n))) (.loc 11)) (.c (.ret (.cst (.bl false))) .n) .n)
 (.c (.ife (.or_ (.cmp .ne (.call "_law_refused" (.c (.loc 4) (.c (.bi .list (.c (.loc 5) .n)) .n))) (.neg (.cst (.int 1)))) (.cmp .ne (.call "_law_refused" (.c (.loc 4) (.c (.cst .non) .n))) (.neg (.cst (.int 1))))) (.c (.ret (.cst (.bl false))) .n) .n) .n)))
def lapT1 : Ss := .c (.asg 9 othersE)
 (.c (.ife (.or_ (.not_ (.call "_law_equal" (.c (.call "run" (.c (.loc 4) (.c (.loc 5) .n))) (.c (.loc 6) .n)))) (.not_ (.call "_law_equal" (.c (.call "run" (.c (.loc 4) (.c (.loc 9) .n))) (.c (.loc 6) .n))))) (.c (.ret (.cst (.bl false))) .n) .n)
 (.c (.ife (.not_ (.call "_law_led" (.c (.loc 4) (.c (.loc 3) (.c (.loc 5) .n))))) (.c (.ret (.cst (.bl false))) .n) .n) lapT2))
def lapB : Ss := .c (.asg 3 (.call "_law_small" (.c (.loc 1) (.c (.cst (.int 8)) .n))))
 (.c (.asg 4 (.mk "Loop" (.c (.loc 3) .n)))
 (.c (.asg 5 (.call "_law_some" (.c (.loc 1) (.c (.cst (.int 10)) .n))))
 (.c (.asg 6 (.call "_law_run" (.c (.loc 3) (.c (.loc 5) (.c (.cst (.str "item")) .n))))) lapT1)))
theorem law_body : d_law.body = .c (.asg 1 (.call "_law_random" (.c (.loc 0) (.c (.cst (.int 2)) .n)))) (.c (.for_ (.one 2) (.r1 (.cst (.int 3))) lapB) (.c (.ret (.cst (.bl true))) .n)) := by rfl
theorem cut_th2 {items : List Th} (k : Nat) (h : k ≤ items.length) (hl : items.length < 1000) (g : G) : getCut (.tup (items.map thD)) (some (k : Int)) none g = .ok (.tup ((items.drop k).map thD)) g := by
  have e : sIxE (items.map thD).length 0 (some (k : Int)) = k := by
    unfold sIxE
    dsimp only
    rw [if_neg (by omega)]
    simp
    omega
  show newT (cutL (items.map thD) (sIxE (items.map thD).length 0 (some (k : Int))) (items.map thD).length) g = _
  rw [e]
  have e2 : cutL (items.map thD) k (items.map thD).length = (items.drop k).map thD := by
    unfold cutL
    rw [List.take_of_length_le (by simp)]
    simp
  rw [e2]
  exact newT_ok (by simp; omega) g
/-- the second half of a lap -/
theorem lap2_ok (n : Nat) {items : List Th} (hi : ∀ t ∈ items, SomeOk t) (hl : items.length < 900) {g : G} {i : Nat} (h : Rd g i) (x0 x2 x3 x6 x7 x8 x9 x10 x11 : Option D) (a : Nat) :
    Ok (exs ⟨P, call P (n + 9), call P (n + 8), none⟩ lapT2 [x0, some (.ref i), x2, x3, some (.ref a), some (.tup (items.map thD)), x6, x7, x8, x9, x10, x11] g) fun z g' => (∃ y10 y11, z = ([x0, some (.ref i), x2, x3, some (.ref a), some (.tup (items.map thD)), x6, x7, x8, x9, y10, y11], .nx)) ∧ Rd g' i := by
  let g1 : G := g ++ [.lst [.int 1, .int 0]]
  have h1 : Rd g1 i := h.gr (.app _ _)
  have hgi : g.length ≠ i := Nat.ne_of_gt (Fr.lt h)
  obtain ⟨bad, g2, e2, f2, hbad⟩ := (pick_new (n + 7) g1 i (badL g.length) (by simp [badL]) (by simp [badL]) h1).to
  have hb2 : g2[g.length]? = some (.lst [.int 1, .int 0]) := f2.2.1 _ _ hgi (get_new _ _)
  obtain ⟨v, g3, e3, f3, l3, c, rfl, c0, c1⟩ := (draw (n + 8) g2 i (items.length + 1) (by omega) (by omega) f2.st).to
  obtain ⟨c, rfl⟩ : ∃ k : Nat, c = (k : Int) := ⟨c.toNat, by omega⟩
  have hb3 : g3[g.length]? = some (.lst [.int 1, .int 0]) := f3.2.1 _ _ hgi hb2
  have cu1 := fun g => cut_th (items := items) c (by omega) (by omega) g
  have cu2 := fun g => cut_th2 (items := items) c (by omega) (by omega) g
  have ask : ∀ x ∈ (items.take c).map thD ++ bad :: ((items.drop c).map thD ++ [.int 7]), AskR g3 x := by
    intro x hx
    simp only [List.mem_append, List.mem_cons, List.mem_map, List.not_mem_nil, or_false] at hx
    rcases hx with ⟨t, _, rfl⟩ | rfl | ⟨t, _, rfl⟩ | rfl
    · exact th_ask _ t
    · exact badL_ask hb3 hbad
    · exact th_ask _ t
    · exact .inl rfl
  have fb := first_at (items.take c) 0 bad ((items.drop c).map thD ++ [.int 7]) (fun t ht => (hi t (List.mem_of_mem_take ht)).1) (badL_bad hbad)
  have lc : 0 + (items.take c).length = c := by simp; omega
  rw [lc] at fb
  have r1 := refused_of n g3 (.ref a) _ _ (need_bad (n + 3) g3 _ ask c fb)
  let g4 : G := g3 ++ [.lst (items.map thD)]
  have r2 := refused_of n g4 (.ref a) (.ref g3.length) _ (need_not (n + 3) g4 _ (.inr ⟨_, _, rfl, get_new g3 _⟩))
  have r3 := refused_of n g4 (.ref a) .non _ (need_not (n + 3) g4 _ (.inl rfl))
  have b1 : ∀ c2, builtin c2 .list [.tup (items.map thD)] g3 = .ok (.ref g3.length) g4 := fun c2 => newL_ok (by simp; omega) _
  have eb : ev ⟨P, call P (n + 9), call P (n + 8), none⟩ badE [x0, some (.ref i), x2, x3, some (.ref a), some (.tup (items.map thD)), x6, x7, x8, x9, x10, x11] g = .ok bad g2 := by
    have n1 : newL [.int 1, .int 0] g = .ok (.ref g.length) g1 := newL_2 _ _ _
    have n2 : newL (badL g.length) g1 = .ok (.ref g1.length) (g1 ++ [.lst (badL g.length)]) := newL_ok (by simp [badL]) _
    have e2 : call P (n + 9) "" "_law_pick" [.ref i, .ref g1.length] (g1 ++ [.lst (badL g.length)]) = .ok bad g2 := e2
    generalize g1 = y1 at n1 n2 e2
    simp only [badL] at n2 e2
    simp [badE, ev, evs, -newL_2, n1, n2, e2]
  have t1 : ∀ g, binop .add (.tup ((items.take c).map thD)) (.tup [bad]) g = .ok (.tup ((items.take c).map thD ++ [bad])) g := fun g => newT_ok (by simp; omega) g
  have t2 : ∀ g, binop .add (.tup ((items.take c).map thD ++ [bad])) (.tup ((items.drop c).map thD)) g = .ok (.tup ((items.take c).map thD ++ [bad] ++ (items.drop c).map thD)) g := fun g => newT_ok (by simp; omega) g
  have t3 : ∀ g, binop .add (.tup ((items.take c).map thD ++ [bad] ++ (items.drop c).map thD)) (.tup [.int 7]) g = .ok (.tup ((items.take c).map thD ++ [bad] ++ (items.drop c).map thD ++ [.int 7])) g := fun g => newT_ok (by simp; omega) g
  have el : (items.take c).map thD ++ [bad] ++ (items.drop c).map thD ++ [.int 7] = (items.take c).map thD ++ bad :: ((items.drop c).map thD ++ [.int 7]) := by simp
  rw [el] at t3
  generalize (items.take c).map thD ++ bad :: ((items.drop c).map thD ++ [.int 7]) = z3 at t3 r1
  generalize (items.take c).map thD ++ [bad] ++ (items.drop c).map thD = z2 at t2 t3
  generalize (items.take c).map thD ++ [bad] = z1 at t1 t2
  generalize (items.take c).map thD = ys1 at t1 cu1
  generalize (items.drop c).map thD = ys2 at t2 cu2
  refine Ok.mono (Q := fun z g' => z = ([x0, some (.ref i), x2, x3, some (.ref a), some (.tup (items.map thD)), x6, x7, x8, x9, some bad, some (.int (c : Int))], .nx) ∧ g' = g4) ?_ ?_
  · have e3 : call P (n + 9) "" "_law_below" [.ref i, .int ((items.length : Int) + 1)] g2 = .ok (.int (c : Int)) g3 := e3
    generalize g4 = y4 at b1 r2 r3
    simp [lapT2, exs, exe, ev, evs, eb, e3, cu1, cu2, t1, t2, t3, r1, b1, r2, r3, -add_tup]
  · rintro _ _ ⟨rfl, rfl⟩
    exact ⟨⟨_, _, rfl⟩, f3.st.gr (.app _ _)⟩
end UkW
end
section
set_option Elab.async false
set_option linter.all false
set_option maxRecDepth 100000
set_option autoImplicit false
set_option maxHeartbeats 1000000
namespace UkW
open Uk
open Mac (Wo Th Ot Nm Bs Pv Vl Wd Ts Sm Bk Man)
def othersOf (items : List Th) : List Th := items.map fun t => (t.1, 100 - 7 * t.2)
theorem mul7 (m : Int) (g : G) : binop .mul (.int 7) (.int m) g = .ok (.int (7 * m)) g := by
  show (if mulOk 7 m then R.ok (D.int (7 * m)) g else .bad) = _
  rw [if_pos]
  unfold mulOk
  rw [decide_eq_true (show -(2 ^ 64) < (7 : Int) by decide), decide_eq_true (show (7 : Int) < 2 ^ 64 by decide)]
  simp
theorem others_ok (n : Nat) (items : List Th) (hl : items.length < 900) (g : G) (x0 x1 x2 x3 x4 x6 x7 x8 x9 x10 x11 : Option D) :
    Ok (ev ⟨P, call P (n + 1), call P n, none⟩ othersE [x0, x1, x2, x3, x4, some (.tup (items.map thD)), x6, x7, x8, x9, x10, x11] g) fun v g' => v = .tup ((othersOf items).map thD) ∧ Gr g g' := by
  simp [othersE, ev, evs, evI]
  have hlen : (items.map thD).length = items.length := by simp
  rw [← hlen]
  refine Ok.mono (comp_fm (xs := items.map thD) (fun d => match d with
    | .tup [w, .int m] => some (.tup [w, .int (100 - 7 * m)])
    | _ => none) rfl items_tup (by simp; omega) fun d hd g2 hg2 => ?_) fun _ g2 ⟨h1, h2⟩ => ?_
  · obtain ⟨t, _, rfl⟩ := List.mem_map.mp hd
    obtain ⟨w, m⟩ := t
    simp [bindT, thD, setAll, Uk.wipe, mul7]
    exact .refl _
  · have e : (items.map thD).filterMap (fun d => match d with
      | .tup [w, .int m] => some (.tup [w, .int (100 - 7 * m)])
      | _ => none) = (othersOf items).map thD := by
      unfold othersOf
      rw [List.filterMap_map, List.map_map, ← List.filterMap_eq_map]
      rfl
    rw [e] at h2
    have ht : ∀ c, builtin c .tuple [.ref g.length] g2 = .ok (.tup ((othersOf items).map thD)) g2 := fun c => by
      show orElse (lsOf g2 g.length) (fun xs => newT xs g2) = _
      rw [lsOf_eq h2, orElse_some, newT_ok (by simp [othersOf]; omega)]
    rw [ht]
    exact ⟨rfl, h1⟩
theorem othersOf_ok {items : List Th} (hi : ∀ t ∈ items, SomeOk t) : ∀ t ∈ othersOf items, thOk t := by
  intro t ht
  obtain ⟨s, hs, rfl⟩ := List.mem_map.mp ht
  have h := hi s hs
  refine ⟨?_, h.1.2⟩
  show 0 ≤ 100 - 7 * s.2
  have := h.2
  omega
theorem lap_ok (n : Nat) {g : G} {i : Nat} (h : Rd g i) (x0 x2 x3 x4 x5 x6 x7 x8 x9 x10 x11 : Option D) :
    Ok (exs ⟨P, call P (n + 19), call P (n + 18), none⟩ lapB [x0, some (.ref i), x2, x3, x4, x5, x6, x7, x8, x9, x10, x11] g) fun z g' => (∃ y3 y4 y5 y6 y7 y8 y9 y10 y11, z = ([x0, some (.ref i), x2, y3, y4, y5, y6, y7, y8, y9, y10, y11], .nx)) ∧ Rd g' i := by
  obtain ⟨v, g1, e1, f1, b, rfl, hb, hr, _⟩ := (small_ok 8 (n + 3) g i h).to
  rw [show n + 3 + 16 = n + 19 from rfl] at e1
  have hg : Good b := ⟨hb, by omega⟩
  obtain ⟨v, g2, e2, rfl, gr2, hl2⟩ := (mk_good (n + 10) (call P (n + 19)) none hg g1).to
  rw [show n + 10 + 8 = n + 18 from rfl] at e2
  have r2 := f1.st.gr gr2
  obtain ⟨v, g3, e3, f3, items, rfl, hlen, hi⟩ := (some_ok (n + 16) 10 (by omega) g2 i r2).to
  rw [show n + 16 + 3 = n + 19 from rfl] at e3
  have hl3 := hl2.fr r2 f3
  obtain ⟨v, g4, e4, rfl, gr4⟩ := (lrun_ok nm0_ok nm0_one (n + 11) hb .item g3 items (fun t ht => some_nm (hi t ht))).to
  rw [show n + 11 + 2 + 6 = n + 19 from rfl] at e4
  have sim := Mac.told_same b items fun t ht => (hi t ht).1.1
  rw [← sim] at e4
  obtain ⟨v, g5, e5, rfl, gr5⟩ := (others_ok (n + 18) items (by omega) g4 x0 (some (.ref i)) x2 (some (.tup (bkD b))) (some (.ref g1.length)) (some (toldD (Mac.toldM (Mac.runM ⟨b, false, false⟩ items)))) x7 x8 x9 x10 x11).to
  rw [show n + 18 + 1 = n + 19 from rfl] at e5
  have hl5 := (hl3.mono gr4).mono gr5
  obtain ⟨v, g6, e6, rfl, gr6⟩ := (run_ok (n + 11) hl5.planned hb items (fun t ht => (hi t ht).1)).to
  rw [show n + 11 + 8 = n + 19 from rfl] at e6
  obtain ⟨v, g7, e7, rfl, gr7⟩ := ((told_eql (n + 17) (Mac.toldM (Mac.runM ⟨b, false, false⟩ items))) g6).to
  rw [show n + 17 + 2 = n + 19 from rfl] at e7
  have hl7 := (hl5.mono gr6).mono gr7
  obtain ⟨v, g8, e8, rfl, gr8⟩ := (run_ok (n + 11) hl7.planned hb (othersOf items) (othersOf_ok hi)).to
  rw [show n + 11 + 8 = n + 19 from rfl] at e8
  have ren := Mac.told_renamed b items (fun m => 100 - 7 * m) (fun t ht => ⟨(hi t ht).1.1, by have := (hi t ht).2; omega⟩) (fun t _ u _ e => by omega)
  have ren2 : Mac.toldM (Mac.runM ⟨b, false, false⟩ (othersOf items)) = Mac.toldM (Mac.runM ⟨b, false, false⟩ items) := by
    rw [sim]
    exact ren
  rw [ren2] at e8
  obtain ⟨v, g9, e9, rfl, gr9⟩ := ((told_eql (n + 17) (Mac.toldM (Mac.runM ⟨b, false, false⟩ items))) g8).to
  rw [show n + 17 + 2 = n + 19 from rfl] at e9
  have hl9 := (hl7.mono gr8).mono gr9
  obtain ⟨v, g10, e10, rfl, kp10⟩ := (led_ok (n + 7) hb hi (by omega) hl9.planned).to
  rw [show n + 7 + 12 = n + 19 from rfl] at e10
  have r10 : Rd g10 i := (((((((f3.st.gr gr4).gr gr5).gr gr6).gr gr7).gr gr8).gr gr9)).kp kp10
  have last := lap2_ok (n + 10) hi (by omega) r10 x0 x2 (some (.tup (bkD b))) (some (toldD (Mac.toldM (Mac.runM ⟨b, false, false⟩ items)))) x7 x8 (some (.tup ((othersOf items).map thD))) x10 x11 g1.length
  rw [show n + 10 + 9 = n + 19 from rfl, show n + 10 + 8 = n + 18 from rfl] at last
  have e3 : call P (n + 19) "" "_law_some" [.ref i, .int 10] g2 = .ok (.tup (items.map thD)) g3 := e3
  have e1 : call P (n + 19) "" "_law_small" [.ref i, .int 8] g = .ok (.tup (bkD b)) g1 := e1
  have e4 : call P (n + 19) "" "_law_run" [.tup (bkD b), .tup (items.map thD), .str "item"] g3 = _ := e4
  generalize toldD (Mac.toldM (Mac.runM ⟨b, false, false⟩ items)) = td at e4 e5 e6 e7 e8 e9 last
  generalize (othersOf items).map thD = ot at e5 e8 last
  generalize items.map thD = its at e3 e4 e5 e6 e8 e10 last
  have key : exs ⟨P, call P (n + 19), call P (n + 18), none⟩ lapB [x0, some (.ref i), x2, x3, x4, x5, x6, x7, x8, x9, x10, x11] g = exs ⟨P, call P (n + 19), call P (n + 18), none⟩ lapT2 [x0, some (.ref i), x2, some (.tup (bkD b)), some (.ref g1.length), some (.tup its), some td, x7, x8, some (.tup ot), x10, x11] g10 := by
    simp only [lapB, lapT1, exs, exe, ev, evs, bind_ok, List.getElem?_cons_zero, List.getElem?_cons_succ, List.set_cons_zero, List.set_cons_succ, e1, e2, e3, e4, e5, e6, e7, e8, e9, e10, Bool.not_true]
  rw [key]
  refine last.mono ?_
  rintro z g' ⟨⟨y10, y11, rfl⟩, hr⟩
  exact ⟨⟨_, _, _, _, _, _, _, _, _, rfl⟩, hr⟩
theorem says : Says pd 63 40 := by
  intro ns hn
  have main : Ok (call P 40 "" "law" [.fro (ns.map D.int)] []) fun v _ => v = .bl true := by
    refine body_run (n := 39) fn_law rfl ?_
    rw [law_body]
    have hN : d_law.N.length = 12 := rfl
    rw [hN]
    obtain ⟨v, g1, e1, i, rfl, h1⟩ := (random_ok 2 38 ns (by omega) []).to
    have hr : rng1 (.int 3) = some (3, .rng 0 1) := rng1_ok 3 (by omega)
    rw [show 38 + 1 = 39 from rfl] at e1
    simp [exs, exe, ev, evs, evI, e1, hr]
    refine Ok.mono (for_inv (fun k δ g' => (∃ x2 x3 x4 x5 x6 x7 x8 x9 x10 x11, δ = [some (.fro (ns.map D.int)), some (.ref i), x2, x3, x4, x5, x6, x7, x8, x9, x10, x11]) ∧ Rd g' i) (fun _ _ => False) ?step ?stop 3 0 _ _ (by simp) ⟨⟨_, _, _, _, _, _, _, _, _, _, rfl⟩, h1⟩) ?fin
    case stop => exact fun δ g' _ => item_rng_end g'
    case step =>
      rintro k _ g2 hk ⟨⟨x2, x3, x4, x5, x6, x7, x8, x9, x10, x11, rfl⟩, h2⟩
      refine ⟨_, _, item_rng hk g2, rfl, ?_⟩
      refine (lap_ok 20 h2 _ _ x3 x4 x5 x6 x7 x8 x9 x10 x11).mono ?_
      rintro z g3 ⟨⟨y3, y4, y5, y6, y7, y8, y9, y10, y11, rfl⟩, h3⟩
      exact ⟨⟨_, _, _, _, _, _, _, _, _, _, rfl⟩, h3⟩
    case fin =>
      rintro ⟨e, f⟩ g2 hz
      cases f with
      | rt d => exact hz.elim
      | nx => simp
  obtain ⟨v, g, e, rfl⟩ := main.to
  exact ⟨g, e⟩
end UkW
end
theorem PySem.Challenge.cw_unlikeself_k02_whole_runs_holds : PySem.Challenge.rw_unlikeself_k02_whole_runs.Holds := by
  exact Uk.holds UkW.says
