import PyProof.Rows.All
import Wide.All
import OpenK.AllK
import Wide.FinOn
import PyProof.EqAt
import PyProof.EqKinds
import PyProof.TupleCall
import HandS.ForMost
import HandS.ForExc
import HandS.TupAny
import HandS.TupMul
import HandS.Deep
import HandS.Property
import HandS.IsInst
import HandS.ExcOwn
import HandS.WordsExc
import HandS.HeadHook2
import HandS.HeadEnd
import HandS.Head2
import HandS.Dict
import HandS.TupLen
import HandS.Lambda
import HandS.EndTab
import KE.KeyNested
import PyProof.DictMoreH
import PyProof.DictRoadsH
import PyProof.InstNe
import HandS.More
import KE.KDictDisplayH
import HandS.Conv
import HandS.Strs
import KE.GoesEnum
import KE.GoesMore
import HandS.Iter
import HandS.Comp
import HandS.FStr
import HandS.DictComp
import HandS.Set
import HandS.SetFor
import KE.SortData
import HandS.Style
import KE.SortKeyHeap
import HandS.TryMany
import HandS.Codes
import HandS.HeadHook4
import HandS.HeadHook3
import PySem.Challenge.RW_unlikeself_k15_loops_written_and_read_ba
section
set_option autoImplicit false
namespace Uk
/-! ## Data, heap, results -/
inductive D where
  | non | bl (b : Bool) | int (i : Int) | str (s : String) | tup (xs : List D) | ref (i : Nat) | fro (xs : List D)
  deriving Inhabited, Repr
inductive O where
  | lst (xs : List D) | dK (kvs : List (D × D)) | dT (kvs : List (D × D)) | lk (kvs : List (D × D)) | ins (c : String) (fs : List (String × D))
  deriving Inhabited, Repr
abbrev G := List O
structure Exn where
  cls : String
  fs : List (String × D)
  deriving Inhabited, Repr
inductive R (α : Type) where
  | ok (a : α) (g : G) | exc (x : Exn) (g : G) | bad
  deriving Repr
def R.bind {α β : Type} (r : R α) (k : α → G → R β) : R β := match r with
  | .ok a g => k a g
  | .exc x g => .exc x g
  | .bad => .bad
def line : Nat := 16777216
mutual
/-- Python's == of data without references -/
def D.eqv : D → D → Bool
  | .non, .non => true
  | .bl a, .bl b => a == b
  | .bl a, .int j => (if a then 1 else 0) == j
  | .int i, .bl b => i == (if b then 1 else 0)
  | .int i, .int j => i == j
  | .str x, .str y => x == y
  | .tup xs, .tup ys => D.eqvs xs ys
  | _, _ => false
def D.eqvs : List D → List D → Bool
  | [], [] => true
  | x :: xs, y :: ys => D.eqv x y && D.eqvs xs ys
  | _, _ => false
end
mutual
/-- depth; a reference counts as too deep -/
def D.dep : D → Nat
  | .tup xs => D.deps xs + 1
  | .ref _ => 1000
  | .fro _ => 1000
  | _ => 0
def D.deps : List D → Nat
  | [] => 0
  | x :: xs => max x.dep (D.deps xs)
end
def D.ok (d : D) : Bool := decide (d.dep ≤ 60)
def oksB (ds : List D) : Bool := decide (D.deps ds ≤ 60)
/-! ## The syntax -/
inductive Bop where | add | sub | mul | fdiv | mod | pow
  deriving DecidableEq, Repr
inductive Cop where | eq | ne | lt | le | gt | ge | isn | notn | in_ | nin
  deriving DecidableEq, Repr
inductive Bi where | len | abs | int | list | tuple | all | any | max | min | str
  deriving DecidableEq, Repr
inductive Tg where | one (i : Nat) | many (l : List Nat)
  deriving DecidableEq, Repr
mutual
inductive E where
  | cst (d : D) | loc (i : Nat) | glo (x : String)
  | tup (es : Es) | lst (es : Es)
  | bin (o : Bop) (a b : E) | neg (a : E)
  | cmp (o : Cop) (a b : E) | chn (a : E) (o : Cop) (b : E) (p : Cop) (c : E)
  | and_ (a b : E) | or_ (a b : E) | not_ (a : E) | ite (c a b : E)
  | ix (a i : E) | cut (a lo hi : E) | rev (a : E)
  | att (a : E) (f : String)
  | call (f : String) (es : Es) | mk (c : String) (es : Es) | met (a : E) (m : String) (es : Es)
  | bi (f : Bi) (es : Es) | isi (a : E) (t : String)
  | comp (vs : List Nat) (elt : E) (tg : Tg) (it : It) (cond : E)
  | exf (f : String) | exi (c : String) | nope
  | dsp (t : Bool) (ps : Ps)
  | gix (x : String) (a : E) | din (x : String) (a : E) | dix (x : String) (a : E) | sset (a : E) | lset (a : E) | sor (a : E) | srt (a : E) (f y : String)
  | dco (t : Bool) (vs : List Nat) (k v : E) (tg : Tg) (it : It)
  | fmt (a : E) | fst (es : Es)
inductive Es where | n | c (e : E) (es : Es)
inductive It where | seq (e : E) | enum (e : E) | r1 (a : E) | r3 (a b c : E) | gd (x : String)
inductive Ps where | n | c (k v : E) (r : Ps)
end
mutual
inductive S where
  | asg (i : Nat) (e : E) | fld (o : E) (f : String) (e : E) | sub (o i e : E) | unp (l : List Nat) (e : E) | par (i j : Nat) (a b : E)
  | ife (c : E) (a b : Ss) | for_ (t : Tg) (it : It) (b : Ss) | forD (t : Tg) (e : E) (b : Ss) | while_ (c : E) (b : Ss)
  | ret (e : E) | retN | ex (e : E) | pass | rai (c : String) (es : Es) | try_ (i : Option Nat) (e : E) (hs : Hs)
inductive Ss where | n | c (s : S) (r : Ss)
inductive Hs where | n | c (cls : String) (i : Option Nat) (b : Ss) (r : Hs)
end
structure FDef where
  ps : List String
  N : List String
  body : Ss
/-! ## Operations on values -/
def newL (ds : List D) (g : G) : R D := if ds.length ≤ line then .ok (.ref g.length) (g ++ [.lst ds]) else .bad
def newT (ds : List D) (g : G) : R D := if ds.length ≤ line then .ok (.tup ds) g else .bad
def newS (s : String) (g : G) : R D := if s.length ≤ line then .ok (.str s) g else .bad
def O.seq : O → Option (List D)
  | .lst xs => some xs
  | _ => none
/-- a list's items -/
def lsOf (g : G) (i : Nat) : Option (List D) := (g[i]?).bind O.seq
def mulOk (i j : Int) : Bool := (decide (-(2 ^ 64) < i) && decide (i < 2 ^ 64)) || (decide (-(2 ^ 64) < j) && decide (j < 2 ^ 64))
def rep {α : Type} (xs : List α) : Nat → List α
  | 0 => []
  | n + 1 => xs ++ rep xs n
def binop (o : Bop) (x y : D) (g : G) : R D := match o, x, y with
  | .add, .int i, .int j => .ok (.int (i + j)) g
  | .add, .str a, .str b => newS (a ++ b) g
  | .add, .tup xs, .tup ys => newT (xs ++ ys) g
  | .add, .ref a, .ref b => match lsOf g a, lsOf g b with
    | some xs, some ys => newL (xs ++ ys) g
    | _, _ => .bad
  | .sub, .int i, .int j => .ok (.int (i - j)) g
  | .mul, .int i, .int j => if mulOk i j then .ok (.int (i * j)) g else .bad
  | .mul, .str s, .int j => if 0 ≤ j ∧ j ≤ 1000 ∧ s.length ≤ 1000 then .ok (.str (String.ofList (rep s.toList j.toNat))) g else .bad
  | .mul, .tup xs, .int j => if 2 ≤ j ∧ j ≤ 1000 ∧ 0 < xs.length ∧ xs.length ≤ 1000 then .ok (.tup (rep xs j.toNat)) g else .bad
  | .fdiv, .int i, .int j => if 0 < j ∧ j < 1073741824 then .ok (.int (i / j)) g else .bad
  | .mod, .int i, .int j => if 0 < j then .ok (.int (i % j)) g else .bad
  | .pow, .int i, .int j => if 0 ≤ j ∧ j ≤ 1000000 ∧ i.natAbs < 2 ^ 64 then .ok (.int (i ^ j.toNat)) g else .bad
  | _, _, _ => .bad
def eqLs (f : D → D → Option Bool) : List D → List D → Option Bool
  | [], [] => some true
  | x :: xs, y :: ys => match f x y, eqLs f xs ys with
    | some u, some v => some (u && v)
    | _, _ => none
  | _, _ => none
/-- == where both are data, or lists of data; none elsewhere -/
def eqF (g : G) : Nat → D → D → Option Bool
  | 0, _, _ => none
  | n + 1, x, y => match x, y with
    | .ref a, .ref b => match lsOf g a, lsOf g b with
      | some xs, some ys => if xs.length = ys.length then eqLs (eqF g n) xs ys else if oksB xs && oksB ys then some false else none
      | _, _ => none
    | .ref a, y => match lsOf g a with
      | some xs => if oksB xs && y.ok then some false else none
      | none => none
    | x, .ref b => match lsOf g b with
      | some ys => if oksB ys && x.ok then some false else none
      | none => none
    | x, y => if x.ok && y.ok then some (D.eqv x y) else none
def sIx (n : Nat) (i : Int) : Option Nat := if 0 ≤ i then (if i < n then some i.toNat else none) else if -(n : Int) ≤ i then some (i + n).toNat else none
def atI {α : Type} (xs : List α) (i : Int) : Option α := (sIx xs.length i).bind fun j => xs[j]?
/-- an end of a slice; d where none is written -/
def sIxE (n d : Nat) : Option Int → Nat
  | none => d
  | some i => if i < 0 then (i + n).toNat else min i.toNat n
def D.int? : D → Option Int
  | .int i => some i
  | _ => none
def cutL {α : Type} (xs : List α) (a b : Nat) : List α := (xs.drop a).take (b - a)
def lookD (k : D) : List (D × D) → Option D
  | [] => none
  | (a, v) :: r => if D.eqv a k then some v else lookD k r
def putD (k v : D) (kvs : List (D × D)) : List (D × D) := if kvs.any fun p => D.eqv p.1 k then kvs.map fun p => if D.eqv p.1 k then (p.1, v) else p else kvs ++ [(k, v)]
/-- keys and values by turns, as a dict -/
def mergeD (kvs : List (D × D)) : List D → Option (List (D × D))
  | [] => some kvs
  | [_] => none
  | k :: v :: r => mergeD (putD k v kvs) r
/-- a dict keyed by tuples (lk: while it is walked) -/
def O.dct : O → Option (List (D × D))
  | .dT kvs => some kvs
  | .lk kvs => some kvs
  | _ => none
/-- what such a dict is keyed by -/
def D.keyT : D → Bool
  | .tup xs => decide ((D.tup xs).dep ≤ 8)
  | _ => false
def D.keyK : D → Bool
  | .int _ => true
  | .str _ => true
  | _ => false
def keysK : List D → Bool
  | k :: _ :: r => k.keyK && keysK r
  | _ => true
def lookF (f : String) : List (String × D) → Option D
  | [] => none
  | (a, v) :: r => if a = f then some v else lookF f r
def putF (f : String) (v : D) : List (String × D) → List (String × D)
  | [] => [(f, v)]
  | (a, w) :: r => if a = f then (a, v) :: r else (a, w) :: putF f v r
def orElse {α : Type} (o : Option α) (k : α → R D) : R D := match o with
  | some a => k a
  | none => .bad
/-- no exception comes out -/
def noX {α : Type} (r : R α) : R α := match r with
  | .ok a g => .ok a g
  | _ => .bad
/-! ## The context of a run -/
structure Pg where
  fn : String → String → Option FDef
  con : String → Option D
  exn : String → Option (Option String)
  cls : String → Bool
  prop : String → String → Bool
  fld : String → String → Bool
  base : String → String → Bool
  dct : String → Option (List (String × D))
/-- the program, the calls of defs, those of defs one level below, the exception in hand -/
structure Cx where
  P : Pg
  call : String → String → List D → G → R D
  call1 : String → String → List D → G → R D
  cur : Option Exn
/-- isinstance against a built-in type; a reference has to be a list -/
def isType (g : G) (x : D) (t : String) : Option Bool := if ["int", "bool", "str", "tuple", "list", "dict"].contains t then match x with
    | .non => some false
    | .bl _ => some (t == "int" || t == "bool")
    | .int _ => some (t == "int")
    | .str _ => some (t == "str")
    | .tup _ => some (t == "tuple")
    | .fro _ => none
    | .ref i => match g[i]? with
      | some (.lst _) => some (t == "list")
      | _ => none
  else none
def isInst (c : Cx) (g : G) (x : D) (t : String) : Option Bool := if c.P.cls t then match x with
    | .ref i => match g[i]? with
      | some (.ins k _) => if c.P.cls k then some (k == t) else none
      | _ => none
    | _ => some false
  else isType g x t
/-- what an instance of k is compared with: data, a list, an instance of k -/
def eqRight (g : G) (k : String) (y : D) : Bool := match y with
  | .ref j => match g[j]? with
    | some (.lst _) => true
    | some (.ins k' _) => k' == k
    | _ => false
  | .fro _ => false
  | _ => true
/-- x != y is asked only of instances of one class, or of what are none -/
def neOk (g : G) (x y : D) : Bool := match x with
  | .ref i => match g[i]? with
    | some (.ins k _) => match y with
      | .ref j => match g[j]? with
        | some (.ins k' _) => k' == k
        | _ => false
      | _ => false
    | _ => true
  | _ => true
def eqOp (c : Cx) (x y : D) (g : G) : R Bool := match x with
  | .ref a => match g[a]? with
    | some (.ins k _) => if c.P.cls k && !c.P.prop k "__eq__" && eqRight g k y then (noX (c.call1 k "__eq__" [x, y] g)).bind fun d g => match d with
      | .bl b => .ok b g
      | _ => .bad
      else .bad
    | _ => match eqF g 4 x y with
      | some b => .ok b g
      | none => .bad
  | _ => match eqF g 4 x y with
    | some b => .ok b g
    | none => .bad
/-- one sign in a text -/
def sgnIn (w z : String) : Option Bool := match w.toList with
  | [c] => some (z.toList.contains c)
  | _ => none
def inOp (x y : D) (g : G) : Option Bool := match y with
  | .str z => match x with
    | .str w => sgnIn w z
    | _ => none
  | .tup ys => if x.ok && oksB ys then some (ys.any fun z => D.eqv z x) else none
  | .ref b => match g[b]? with
    | some (.lst ys) => if x.ok && oksB ys then some (ys.any fun z => D.eqv z x) else none
    | some (.dT kvs) => if x.keyT then some (lookD x kvs).isSome else none
    | some (.lk kvs) => if x.keyT then some (lookD x kvs).isSome else none
    | some (.dK kvs) => match x with
      | .str _ => some (lookD x kvs).isSome
      | .int _ => some (lookD x kvs).isSome
      | _ => none
    | _ => none
  | _ => none
def ordI (f : Int → Int → Bool) (x y : D) (g : G) : R D := match x, y with
  | .int i, .int j => .ok (.bl (f i j)) g
  | _, _ => .bad
def D.isNon : D → Bool
  | .non => true
  | _ => false
def cmpop (c : Cx) (o : Cop) (x y : D) (g : G) : R D := match o with
  | .eq => (eqOp c x y g).bind fun b g => .ok (.bl b) g
  | .ne => if neOk g x y then (eqOp c x y g).bind fun b g => .ok (.bl (!b)) g else .bad
  | .lt => ordI (fun i j => decide (i < j)) x y g
  | .le => ordI (fun i j => decide (i ≤ j)) x y g
  | .gt => ordI (fun i j => decide (j < i)) x y g
  | .ge => ordI (fun i j => decide (j ≤ i)) x y g
  | .isn => .ok (.bl x.isNon) g
  | .notn => .ok (.bl (!x.isNon)) g
  | .in_ => orElse (inOp x y g) fun b => .ok (.bl b) g
  | .nin => orElse (inOp x y g) fun b => .ok (.bl (!b)) g
def getIx (x i : D) (g : G) : R D := match x, i with
  | .tup xs, .int k => orElse (atI xs k) fun v => .ok v g
  | .ref a, .int k => match g[a]? with
    | some (.lst xs) => orElse (atI xs k) fun v => .ok v g
    | some (.dK kvs) => orElse (lookD (.int k) kvs) fun v => .ok v g
    | _ => .bad
  | .ref a, .str s => match g[a]? with
    | some (.dK kvs) => orElse (lookD (.str s) kvs) fun v => .ok v g
    | _ => .bad
  | .ref a, .tup ks => match g[a]? with
    | some (.dT kvs) => if (D.tup ks).keyT then orElse (lookD (.tup ks) kvs) fun v => .ok v g else .bad
    | some (.lk kvs) => if (D.tup ks).keyT then orElse (lookD (.tup ks) kvs) fun v => .ok v g else .bad
    | _ => .bad
  | _, _ => .bad
/-- a text's slice -/
def cutT (s : String) (lo hi : Option Int) : String := String.ofList (cutL s.toList (sIxE s.length 0 lo) (sIxE s.length s.length hi))
def getCut (x : D) (lo hi : Option Int) (g : G) : R D := match x with
  | .str s => if s.length ≤ line then .ok (.str (cutT s lo hi)) g else .bad
  | .tup xs => newT (cutL xs (sIxE xs.length 0 lo) (sIxE xs.length xs.length hi)) g
  | .ref r => match lsOf g r with
    | some xs => newL (cutL xs (sIxE xs.length 0 lo) (sIxE xs.length xs.length hi)) g
    | none => .bad
  | _ => .bad
def intsD : List D → Option (List Int)
  | [] => some []
  | .int i :: r => (intsD r).map (i :: ·)
  | _ :: _ => none
def bools : List D → Option (List Bool)
  | [] => some []
  | .bl b :: r => (bools r).map (b :: ·)
  | _ :: _ => none
def maxI : List Int → Int
  | [] => 0
  | [i] => i
  | i :: r => max i (maxI r)
def minI : List Int → Int
  | [] => 0
  | [i] => i
  | i :: r => min i (minI r)
def lenOf (c : Cx) (x : D) (g : G) : R D := match x with
  | .str s => if s.length ≤ line then .ok (.int s.length) g else .bad
  | .tup xs => .ok (.int xs.length) g
  | .ref a => match g[a]? with
    | some (.lst xs) => .ok (.int xs.length) g
    | some (.dK kvs) => .ok (.int kvs.length) g
    | some (.dT kvs) => .ok (.int kvs.length) g
    | some (.lk kvs) => .ok (.int kvs.length) g
    | some (.ins k _) => if c.P.cls k && !c.P.prop k "__len__" then (noX (c.call1 k "__len__" [x] g)).bind fun d g => match d with
      | .int n => if 0 ≤ n ∧ n ≤ line then .ok (.int n) g else .bad
      | _ => .bad
      else .bad
    | none => .bad
  | _ => .bad
def allD (ds : List D) (g : G) (f : List Bool → Bool) : R D := match ds with
  | [.ref a] => orElse ((lsOf g a).bind bools) fun bs => .ok (.bl (f bs)) g
  | _ => .bad
def extD (ds : List D) (g : G) (f : List Int → Int) : R D := match ds with
  | [.ref a] => orElse ((lsOf g a).bind intsD) fun is => if is.isEmpty then .bad else .ok (.int (f is)) g
  | _ => .bad
/-- the digit that a text writes -/
def digT (s : String) : Option Nat := (List.range 10).find? fun n => s == toString ((n : Nat) : Int)
def builtin (c : Cx) (f : Bi) (ds : List D) (g : G) : R D := match f with
  | .str => match ds with
    | [.int i] => if i.natAbs < 1000000 then .ok (.str (toString i)) g else .bad
    | _ => .bad
  | .len => match ds with
    | [x] => lenOf c x g
    | _ => .bad
  | .abs => match ds with
    | [.int i] => .ok (.int (if i < 0 then -i else i)) g
    | _ => .bad
  | .int => match ds with
    | [.int i] => .ok (.int i) g
    | [.str s] => orElse (digT s) fun n => .ok (.int (n : Int)) g
    | [.bl b] => .ok (.int (if b then 1 else 0)) g
    | _ => .bad
  | .list => match ds with
    | [.tup xs] => newL xs g
    | [.ref a] => match g[a]? with
      | some (.dT kvs) => newL (kvs.map (·.1)) g
      | _ => orElse (lsOf g a) fun xs => newL xs g
    | _ => .bad
  | .tuple => match ds with
    | [.tup xs] => .ok (.tup xs) g
    | [.ref a] => orElse (lsOf g a) fun xs => newT xs g
    | _ => .bad
  | .all => allD ds g fun bs => bs.all id
  | .any => allD ds g fun bs => bs.any id
  | .max => match ds with
    | [.int i, .int j] => .ok (.int (if j > i then j else i)) g
    | _ => extD ds g maxI
  | .min => extD ds g minI
/-- what kind of object a method is asked of: a list, an instance -/
inductive Kd where | lst | dct | ins (k : String) | str
def kindOf (P : Pg) (x : D) (m : String) (g : G) : Option Kd := match x with
  | .ref a => match g[a]? with
    | some (.lst _) => some .lst
    | some (.dT _) => if m = "setdefault" then some .dct else none
    | some (.ins k fs) => if (lookF m fs).isNone && P.cls k && !P.prop k m && (P.fn k m).isSome then some (.ins k) else none
    | _ => none
  | .str _ => if m = "join" ∨ m = "split" then some .str else none
  | _ => none
/-- S stands at the head of l -/
def preL {α : Type} [BEq α] (S l : List α) : Bool := l.take S.length == S
/-- l cut at each S from the left; k signs are still to be passed over -/
def splL {α : Type} [BEq α] (S : List α) : Nat → List α → List α → List (List α)
  | _, acc, [] => [acc]
  | 0, acc, c :: r => if preL S (c :: r) = true then acc :: splL S (S.length - 1) [] r else splL S 0 (acc ++ [c]) r
  | k + 1, acc, _ :: r => splL S k acc r
def splT (s b : String) : List String := (splL b.toList 0 [] s.toList).map String.ofList
def joinL' {α : Type} (S : List α) : List (List α) → List α
  | [] => []
  | [p] => p
  | p :: q :: r => p ++ (S ++ joinL' S (q :: r))
def joinT (s : String) (ys : List String) : String := String.ofList (joinL' s.toList (ys.map String.toList))
def strsD : List D → Option (List String)
  | [] => some []
  | .str s :: r => (strsD r).map (s :: ·)
  | _ :: _ => none
/-- a text's method -/
def strM (x : D) (m : String) (ds : List D) (g : G) : R D := match x with
  | .str s => match ds with
    | [.str b] => if m = "split" ∧ 0 < b.length ∧ s.length ≤ 1000000 ∧ b.toList.all (fun c => decide (c.toNat < 256)) = true then newL ((splT s b).map .str) g else .bad
    | [.ref a] => if m = "join" then orElse ((lsOf g a).bind strsD) fun ys => if (ys.map String.length).sum + ys.length * s.length ≤ 1000000 then .ok (.str (joinT s ys)) g else .bad else .bad
    | _ => .bad
  | _ => .bad
inductive LM where | append | extend | pop | index | insert | reverse
def LM.of (m : String) : Option LM := if m = "append" then some .append else if m = "extend" then some .extend else if m = "pop" then some .pop else if m = "index" then some .index else if m = "insert" then some .insert else if m = "reverse" then some .reverse else none
/-- the place of the first that is y -/
def ixD (y : D) : List D → Nat → Option Nat
  | [], _ => none
  | x :: xs, i => if D.eqv x y then some i else ixD y xs (i + 1)
/-- t.index(y), t a tuple -/
def tupM (x : D) (ds : List D) (g : G) : R D := match x, ds with
  | .tup xs, [y] => if y.ok = true ∧ oksB xs = true then orElse (ixD y xs 0) fun i => .ok (.int i) g else .bad
  | _, _ => .bad
/-- a dict of the module with text keys: key in it, the value there -/
def dinM (o : Option (List (String × D))) (y : D) (g : G) : R D := match o, y with
  | some kvs, .str z => .ok (.bl (lookF z kvs).isSome) g
  | _, _ => .bad
def dixM (o : Option (List (String × D))) (y : D) (g : G) : R D := match o, y with
  | some kvs, .str z => orElse (lookF z kvs) fun v => .ok v g
  | _, _ => .bad
def listM (x : D) (m : LM) (ds : List D) (g : G) : R D := match x with
  | .ref a => match g[a]? with
    | some (.lst xs) => match m, ds with
      | .append, [y] => if xs.length < line then .ok .non (g.set a (.lst (xs ++ [y]))) else .bad
      | .extend, [.ref b] => match g[b]? with
        | some (.lst ys) => if xs.length + ys.length ≤ line then .ok .non (g.set a (.lst (xs ++ ys))) else .bad
        | _ => .bad
      | .pop, [] => orElse (xs.getLast?) fun y => .ok y (g.set a (.lst xs.dropLast))
      | .pop, [.int i] => if 0 ≤ i ∧ i < 1073741824 then orElse (xs[i.toNat]?) fun y => .ok y (g.set a (.lst (xs.eraseIdx i.toNat))) else .bad
      | .index, [y] => if y.ok = true ∧ oksB xs = true then orElse (ixD y xs 0) fun i => .ok (.int i) g else .bad
      | .insert, [.int i, y] => if 0 ≤ i ∧ i ≤ xs.length ∧ xs.length < 1000 then .ok .non (g.set a (.lst (xs.take i.toNat ++ y :: xs.drop i.toNat))) else .bad
      | .reverse, [] => .ok .non (g.set a (.lst xs.reverse))
      | _, _ => .bad
    | _ => .bad
  | _ => .bad
/-- d.setdefault(k, v) -/
def dictM (x : D) (m : String) (ds : List D) (g : G) : R D := match x with
  | .ref a => match g[a]? with
    | some (.dT kvs) => match ds with
      | [k, v] => if m = "setdefault" ∧ k.keyT = true ∧ kvs.length < line then (match lookD k kvs with
        | some d => .ok d g
        | none => .ok v (g.set a (.dT (kvs ++ [(k, v)])))) else .bad
      | _ => .bad
    | _ => .bad
  | _ => .bad
def attr (c : Cx) (x : D) (f : String) (g : G) : R D := match x with
  | .ref a => match g[a]? with
    | some (.ins k fs) => if !c.P.cls k then .bad else if c.P.prop k f then noX (c.call1 k f [x] g) else if c.P.fld k f then orElse (lookF f fs) fun v => .ok v g else .bad
    | _ => .bad
  | _ => .bad
def make (c : Cx) (k : String) (ds : List D) (g : G) : R D := if c.P.cls k then
    (c.call1 k "__init__" (.ref g.length :: ds) (g ++ [.ins k []])).bind fun d g' => match d with
      | .non => .ok (.ref g.length) g'
      | _ => .bad
  else .bad
/-- a displayed dict; its object stands at a already -/
def mkD (t : Bool) (a : Nat) (ds : List D) (g : G) : R D := match t, g[a]? with
  | false, some (.dK []) => if keysK ds = true ∧ ds.length ≤ 30 then orElse (mergeD [] ds) fun kvs => .ok (.ref a) (g.set a (.dK kvs)) else .bad
  | true, some (.dT []) => match ds with
    | [] => .ok (.ref a) g
    | [k, v] => if k.keyT then .ok (.ref a) (g.set a (.dT [(k, v)])) else .bad
    | _ => .bad
  | _, _ => .bad
/-! ## Sets and sorted lists -/
/-- sorted(set(is)) of small ints -/
def sortU (is : List Int) : List Int := ((List.range 60).map Int.ofNat).filter fun k => is.contains k
def small60 (is : List Int) : Bool := is.all fun i => decide (0 ≤ i ∧ i < 60)
def setOf (x : D) (g : G) : Option (List Int) := match x with
  | .ref a => ((lsOf g a).bind intsD).bind fun is => if small60 is then some (sortU is) else none
  | _ => none
/-- a datum as a row of signs -/
abbrev Tok := Int ⊕ List Nat
def tokLt : Tok → Tok → Bool
  | .inl a, .inl b => decide (a < b)
  | .inl _, .inr _ => true
  | .inr _, .inl _ => false
  | .inr a, .inr b => decide (a < b)
def toksLt : List Tok → List Tok → Bool
  | [], [] => false
  | [], _ :: _ => true
  | _ :: _, [] => false
  | x :: r, y :: t => tokLt x y || (!tokLt y x && toksLt r t)
mutual
def tokD : D → List Tok
  | .bl b => [.inl (if b = true then 1 else 0)]
  | .int i => [.inl i]
  | .str x => [.inr (x.toList.map Char.toNat)]
  | .tup xs => tokDs xs
  | .fro xs => tokDs xs
  | _ => []
def tokDs : List D → List Tok
  | [] => [.inl 0]
  | x :: xs => .inl 1 :: (tokD x ++ tokDs xs)
end
/-- x <= y, both alike -/
def leD (x y : D) : Bool := !toksLt (tokD y) (tokD x)
mutual
/-- compared place by place -/
def alkD : D → D → Bool
  | .non, .non => true
  | .bl _, .bl _ => true
  | .int _, .int _ => true
  | .str _, .str _ => true
  | .tup xs, .tup ys => alkDs xs ys
  | .fro xs, .fro ys => alkDs xs ys
  | _, _ => false
def alkDs : List D → List D → Bool
  | x :: xs, y :: ys => alkD x y && alkDs xs ys
  | [], _ => true
  | _ :: _, [] => true
end
def tupNE : D → Bool
  | .tup (_ :: _) => true
  | _ => false
/-- tuples that can be sorted -/
def sortB (xs : List D) : Bool := xs.all tupNE && xs.all (fun x => xs.all fun y => alkD x y) && oksB xs
/-- all there -/
def allO {α : Type} : List (Option α) → Option (List α)
  | [] => some []
  | some x :: r => (allO r).map (x :: ·)
  | none :: _ => none
/-- a key as it stands: its lists read (as .fro), n levels deep -/
def rsv (g : G) : Nat → D → Option D
  | 0, _ => none
  | n + 1, d => match d with
    | .tup xs => (allO (xs.map (rsv g n))).map .tup
    | .ref i => (lsOf g i).bind fun xs => (allO (xs.map (rsv g n))).map .fro
    | .fro _ => none
    | d => some d
/-- keys that can be sorted -/
def sortK (ks : List D) : Bool := ks.all tupNE && ks.all (fun x => ks.all fun y => alkD x y)
/-- the keys of all items -/
def keysL (f : D → G → R D) : List D → G → R (List D)
  | [], g => .ok [] g
  | x :: xs, g => (noX (f x g)).bind fun k g => (keysL f xs g).bind fun ks g => .ok (k :: ks) g
/-- sorted(x, key=lambda y: f(y)) -/
def srtM (f : D → G → R D) (x : D) (g : G) : R D := match x with
  | .ref r => orElse (lsOf g r) fun xs => if xs.isEmpty then .bad else (keysL f xs g).bind fun ks g => orElse (allO (ks.map (rsv g 6))) fun ks =>
      if sortK ks then newL (((ks.zip xs).mergeSort fun p q => leD p.1 q.1).map (·.2)) g else .bad
  | _ => .bad
/-! ## What is walked -/
inductive Wk where | seq (a : Nat) | tup (xs : List D) | fro (xs : List D) | eseq (a : Nat) | etup (xs : List D) | rng (lo step : Int)
/-- how many turns, and what is walked -/
def walkOf (x : D) (g : G) : Option (Nat × Wk) := match x with
  | .tup xs => some (xs.length, .tup xs)
  | .fro xs => some (xs.length, .fro xs)
  | .ref a => (lsOf g a).map fun xs => (xs.length, .seq a)
  | _ => none
def enumOf (x : D) (g : G) : Option (Nat × Wk) := match x with
  | .tup xs => some (xs.length, .etup xs)
  | .ref a => (lsOf g a).map fun xs => (xs.length, .eseq a)
  | _ => none
/-- the item of turn i: some none at the end -/
def Wk.item (w : Wk) (n i : Nat) (g : G) : Option (Option D) := match w with
  | .tup xs => some xs[i]?
  | .fro xs => some xs[i]?
  | .seq a => (lsOf g a).map fun xs => xs[i]?
  | .etup xs => some (xs[i]?.map fun x => .tup [.int i, x])
  | .eseq a => (lsOf g a).map fun xs => xs[i]?.map fun x => .tup [.int i, x]
  | .rng lo st => some (if i < n then some (.int (lo + st * i)) else none)
abbrev Env := List (Option D)
def setAll : Env → List Nat → List D → Option Env
  | δ, [], [] => some δ
  | δ, i :: is, d :: ds => setAll (δ.set i (some d)) is ds
  | _, _, _ => none
def bindT (t : Tg) (d : D) (δ : Env) : Option Env := match t with
  | .one i => some (δ.set i (some d))
  | .many l => match d with
    | .tup ds => setAll δ l ds
    | _ => none
def wipe (δ : Env) : List Nat → Env
  | [] => δ
  | v :: vs => (wipe δ vs).set v none
def rng1 (x : D) : Option (Nat × Wk) := match x with
  | .int n => if n.natAbs / 1073741824 = 0 then some (n.toNat, .rng 0 1) else none
  | _ => none
/-- range(a, b, -1) -/
def rng3 (x y z : D) : Option (Nat × Wk) := match x, y, z with
  | .int a, .int b, .int (-1) => if a.natAbs / 1073741824 = 0 ∧ b.natAbs / 1073741824 = 0 then some ((a - b).toNat, .rng a (-1)) else none
  | _, _, _ => none
/-- a dict comprehension's turns; the dict stands at p -/
def dcoL (t : Bool) (w : Wk) (n : Nat) (p : Nat) (turn : D → G → R (D × D)) : Nat → Nat → G → R Unit
  | 0, i, g => match w.item n i g with
    | some none => .ok () g
    | _ => .bad
  | k + 1, i, g => match w.item n i g with
    | some (some x) => match turn x g with
      | .ok (y, z) g => match t, g[p]? with
        | false, some (.dK acc) => if y.keyK = true ∧ acc.length < line then dcoL t w n p turn k (i + 1) (g.set p (.dK (putD y z acc))) else .bad
        | true, some (.dT acc) => if y.keyT = true ∧ acc.length < line then dcoL t w n p turn k (i + 1) (g.set p (.dT (putD y z acc))) else .bad
        | _, _ => .bad
      | _ => .bad
    | _ => .bad
/-- a comprehension's turns: n in all, k left; the list stands at p -/
def compL (w : Wk) (n : Nat) (p : Nat) (turn : D → G → R (Option D)) : Nat → Nat → G → R Unit
  | 0, i, g => match w.item n i g with
    | some none => .ok () g
    | _ => .bad
  | k + 1, i, g => match w.item n i g with
    | some (some x) => match turn x g with
      | .ok none g => compL w n p turn k (i + 1) g
      | .ok (some y) g => match g[p]? with
        | some (.lst acc) => if acc.length < line then compL w n p turn k (i + 1) (g.set p (.lst (acc ++ [y]))) else .bad
        | _ => .bad
      | _ => .bad
    | _ => .bad
/-! ## Expressions -/
def isnC (e : E) : Bool := match e with
  | .cst .non => true
  | _ => false
mutual
def ev (c : Cx) : E → Env → G → R D
  | .cst d, _, g => .ok d g
  | .loc i, δ, g => match δ[i]? with
    | some (some d) => .ok d g
    | _ => .bad
  | .glo x, _, g => match c.P.con x with
    | some d => .ok d g
    | none => .bad
  | .tup es, δ, g => (evs c es δ g).bind newT
  | .lst es, δ, g => (evs c es δ g).bind newL
  | .bin o a b, δ, g => (ev c a δ g).bind fun x g => (ev c b δ g).bind fun y g => binop o x y g
  | .neg a, δ, g => (ev c a δ g).bind fun x g => match x with
    | .int i => .ok (.int (-i)) g
    | _ => .bad
  | .cmp o a b, δ, g => (ev c a δ g).bind fun x g => (ev c b δ g).bind fun y g => cmpop c o x y g
  | .chn a o b p d, δ, g => (ev c a δ g).bind fun x g => (ev c b δ g).bind fun y g => (cmpop c o x y g).bind fun z g => match z with
    | .bl true => (ev c d δ g).bind fun w g => cmpop c p y w g
    | .bl false => .ok (.bl false) g
    | _ => .bad
  | .and_ a b, δ, g => (ev c a δ g).bind fun x g => match x with
    | .bl true => ev c b δ g
    | .bl false => .ok (.bl false) g
    | _ => .bad
  | .or_ a b, δ, g => (ev c a δ g).bind fun x g => match x with
    | .bl true => .ok (.bl true) g
    | .bl false => ev c b δ g
    | _ => .bad
  | .not_ a, δ, g => (ev c a δ g).bind fun x g => match x with
    | .bl b => .ok (.bl (!b)) g
    | _ => .bad
  | .ite t a b, δ, g => (ev c t δ g).bind fun x g => match x with
    | .bl true => ev c a δ g
    | .bl false => ev c b δ g
    | _ => .bad
  | .ix a i, δ, g => (ev c a δ g).bind fun x g => (ev c i δ g).bind fun y g => getIx x y g
  | .cut a lo hi, δ, g => (ev c a δ g).bind fun x g => match isnC lo, isnC hi with
    | true, true => getCut x none none g
    | true, false => (ev c hi δ g).bind fun h g => orElse h.int? fun h => getCut x none (some h) g
    | false, true => (ev c lo δ g).bind fun l g => orElse l.int? fun l => getCut x (some l) none g
    | false, false => (ev c lo δ g).bind fun l g => orElse l.int? fun l => (ev c hi δ g).bind fun h g => orElse h.int? fun h => getCut x (some l) (some h) g
  | .rev a, δ, g => (ev c a δ g).bind fun x g => match x with
    | .ref r => orElse (lsOf g r) fun xs => newL xs.reverse g
    | _ => .bad
  | .gix x a, δ, g => (ev c a δ g).bind fun y g => orElse (c.P.con x) fun t => tupM t [y] g
  | .din x a, δ, g => (ev c a δ g).bind fun y g => dinM (c.P.dct x) y g
  | .dix x a, δ, g => (ev c a δ g).bind fun y g => dixM (c.P.dct x) y g
  | .sset a, δ, g => (ev c a δ g).bind fun x g => orElse (setOf x g) fun is => newL (is.map .int) g
  | .lset a, δ, g => (ev c a δ g).bind fun x g => orElse (setOf x g) fun is => .ok (.int is.length) g
  | .sor a, δ, g => (ev c a δ g).bind fun x g => match x with
    | .ref r => orElse (lsOf g r) fun xs => if sortB xs then newL (xs.mergeSort leD) g else .bad
    | _ => .bad
  | .srt a f _, δ, g => (ev c a δ g).bind fun x g => srtM (fun x g => c.call1 "" f [x] g) x g
  | .att a f, δ, g => (ev c a δ g).bind fun x g => attr c x f g
  | .call f es, δ, g => (evs c es δ g).bind fun ds g => c.call "" f ds g
  | .mk k es, δ, g => (evs c es δ g).bind fun ds g => make c k ds g
  | .met a m es, δ, g => (ev c a δ g).bind fun x g => match kindOf c.P x m g with
    | some .lst => orElse (LM.of m) fun q => (evs c es δ g).bind fun ds g => listM x q ds g
    | some (.ins k) => (evs c es δ g).bind fun ds g => c.call k m (x :: ds) g
    | some .dct => (evs c es δ g).bind fun ds g => dictM x m ds g
    | some .str => (evs c es δ g).bind fun ds g => strM x m ds g
    | none => .bad
  | .bi f es, δ, g => (evs c es δ g).bind fun ds g => builtin c f ds g
  | .isi a t, δ, g => (ev c a δ g).bind fun x g => orElse (isInst c g x t) fun b => .ok (.bl b) g
  | .comp vs elt tg it cond, δ, g => (evI c it δ g).bind fun w g =>
    (compL w.2 w.1 g.length (fun x g => match bindT tg x (wipe δ vs) with
      | none => .bad
      | some δ => (ev c cond δ g).bind fun t g => match t with
        | .bl true => (ev c elt δ g).bind fun y g => .ok (some y) g
        | .bl false => .ok none g
        | _ => .bad) w.1 0 (g ++ [.lst []])).bind fun _ g' => .ok (.ref g.length) g'
  | .nope, _, _ => .bad
  | .fmt a, δ, g => (ev c a δ g).bind fun x g => match x with
    | .str s => if s.length ≤ line then .ok (.str s) g else .bad
    | _ => .bad
  | .fst es, δ, g => evf c es "" δ g
  | .dsp t ps, δ, g => (evP c ps δ (g ++ [if t then .dT [] else .dK []])).bind fun ds g' => mkD t g.length ds g'
  | .dco t vs k v tg it, δ, g => (evI c it δ g).bind fun w g =>
    (dcoL t w.2 w.1 g.length (fun x g => match bindT tg x (wipe δ vs) with
      | none => .bad
      | some δ => (ev c k δ g).bind fun y g => (ev c v δ g).bind fun z g => .ok (y, z) g) w.1 0 (g ++ [if t then .dT [] else .dK []])).bind fun _ g' => .ok (.ref g.length) g'
  | .exf f, _, g => match c.cur with
    | some x => orElse (lookF f x.fs) fun v => .ok v g
    | none => .bad
  | .exi k, _, g => match c.cur with
    | some x => .ok (.bl (c.P.base x.cls k)) g
    | none => .bad
def evs (c : Cx) : Es → Env → G → R (List D)
  | .n, _, g => .ok [] g
  | .c e es, δ, g => (ev c e δ g).bind fun x g => (evs c es δ g).bind fun xs g => .ok (x :: xs) g
/-- the parts of an f-string, one behind the other -/
def evf (c : Cx) : Es → String → Env → G → R D
  | .n, acc, _, g => .ok (.str acc) g
  | .c e es, acc, δ, g => (ev c e δ g).bind fun x g => match x with
    | .str s => if (acc ++ s).length ≤ line then evf c es (acc ++ s) δ g else .bad
    | _ => .bad
def evP (c : Cx) : Ps → Env → G → R (List D)
  | .n, _, g => .ok [] g
  | .c k v r, δ, g => (ev c k δ g).bind fun x g => (ev c v δ g).bind fun y g => (evP c r δ g).bind fun xs g => .ok (x :: y :: xs) g
def evI (c : Cx) : It → Env → G → R (Nat × Wk)
  | .seq e, δ, g => (ev c e δ g).bind fun x g => match walkOf x g with
    | some w => .ok w g
    | none => .bad
  | .enum e, δ, g => (ev c e δ g).bind fun x g => match enumOf x g with
    | some w => .ok w g
    | none => .bad
  | .r1 e, δ, g => (ev c e δ g).bind fun x g => match rng1 x with
    | some w => .ok w g
    | none => .bad
  | .gd x, _, g => match c.P.dct x with
    | some kvs => .ok (kvs.length, .tup (kvs.map fun p => .str p.1)) g
    | none => .bad
  | .r3 a b d, δ, g => (ev c a δ g).bind fun x g => (ev c b δ g).bind fun y g => (ev c d δ g).bind fun z g => match rng3 x y z with
    | some w => .ok w g
    | none => .bad
end
/-! ## Statements -/
inductive Fl where | nx | rt (d : D)
  deriving Repr
abbrev RS := R (Env × Fl)
/-- a for's turns: n in all, k left -/
def forL (w : Wk) (n : Nat) (t : Tg) (body : Env → G → RS) : Nat → Nat → Env → G → RS
  | 0, i, δ, g => match w.item n i g with
    | some none => .ok (δ, .nx) g
    | _ => .bad
  | k + 1, i, δ, g => match w.item n i g with
    | some (some x) => match bindT t x δ with
      | none => .bad
      | some δ => (body δ g).bind fun z g => match z with
        | (δ, .nx) => forL w n t body k (i + 1) δ g
        | z => .ok z g
    | _ => .bad
def whileL (test : Env → G → R D) (body : Env → G → RS) : Nat → Env → G → RS
  | 0, _, _ => .bad
  | k + 1, δ, g => (test δ g).bind fun x g => match x with
    | .bl false => .ok (δ, .nx) g
    | .bl true => (body δ g).bind fun z g => match z with
      | (δ, .nx) => whileL test body k δ g
      | z => .ok z g
    | _ => .bad
def most : Nat := 2 ^ 64
/-- a dict that was walked may be written again -/
def unlk {α : Type} (a : Nat) (r : R α) : R α := match r with
  | .ok x g => match g[a]? with
    | some (.lk kvs) => .ok x (g.set a (.dT kvs))
    | _ => .bad
  | _ => .bad
def setSub (o i v : D) (g : G) : R Unit := match o with
  | .ref a => match g[a]? with
    | some (.lst xs) => match i with
      | .int k => match sIx xs.length k with
        | some j => .ok () (g.set a (.lst (xs.set j v)))
        | none => .bad
      | _ => .bad
    | some (.dK kvs) => match i with
      | .int k => if kvs.length < line then .ok () (g.set a (.dK (putD (.int k) v kvs))) else .bad
      | .str s => if kvs.length < line then .ok () (g.set a (.dK (putD (.str s) v kvs))) else .bad
      | _ => .bad
    | some (.dT kvs) => match i with
      | .tup ks => if (D.tup ks).keyT && decide (kvs.length < line) then .ok () (g.set a (.dT (putD (.tup ks) v kvs))) else .bad
      | _ => .bad
    | _ => .bad
  | _ => .bad
def setFld (P : Pg) (o : D) (f : String) (v : D) (g : G) : R Unit := match o with
  | .ref a => match g[a]? with
    | some (.ins k fs) => if fs.length < 1000 ∧ P.cls k = true ∧ P.fld k f = true then .ok () (g.set a (.ins k (putF f v fs))) else .bad
    | _ => .bad
  | _ => .bad
def setO (i : Option Nat) (x : D) (δ : Env) : Env := match i with
  | some i => δ.set i (some x)
  | none => δ
def unO (i : Option Nat) (δ : Env) : Env := match i with
  | some i => δ.set i none
  | none => δ
mutual
def exe (c : Cx) : S → Env → G → RS
  | .asg i e, δ, g => (ev c e δ g).bind fun x g => .ok (δ.set i (some x), .nx) g
  | .fld o f e, δ, g => (ev c e δ g).bind fun x g => (ev c o δ g).bind fun y g => (setFld c.P y f x g).bind fun _ g => .ok (δ, .nx) g
  | .sub o i e, δ, g => (ev c e δ g).bind fun x g => (ev c o δ g).bind fun y g => (ev c i δ g).bind fun z g => (setSub y z x g).bind fun _ g => .ok (δ, .nx) g
  | .unp l e, δ, g => (ev c e δ g).bind fun x g => match x with
    | .tup ds => match setAll δ l ds with
      | some δ => .ok (δ, .nx) g
      | none => .bad
    | _ => .bad
  | .par i j a b, δ, g => (ev c a δ g).bind fun x g => (ev c b δ g).bind fun y g => .ok ((δ.set i (some x)).set j (some y), .nx) g
  | .ife t a b, δ, g => (ev c t δ g).bind fun x g => match x with
    | .bl true => exs c a δ g
    | .bl false => exs c b δ g
    | _ => .bad
  | .for_ t it b, δ, g => (evI c it δ g).bind fun w g => forL w.2 w.1 t (exs c b) w.1 0 δ g
  | .forD t e b, δ, g0 => (ev c e δ g0).bind fun x g => match x with
    | .ref a => match g0[a]?, g[a]? with
      | some (.dT _), some (.dT kvs) => unlk a (forL (.tup (kvs.map (·.1))) kvs.length t (exs c b) kvs.length 0 δ (g.set a (.lk kvs)))
      | _, _ => .bad
    | _ => .bad
  | .while_ t b, δ, g => whileL (ev c t) (exs c b) most δ g
  | .ret e, δ, g => (ev c e δ g).bind fun x g => .ok (δ, .rt x) g
  | .retN, δ, g => .ok (δ, .rt .non) g
  | .ex e, δ, g => (ev c e δ g).bind fun _ g => .ok (δ, .nx) g
  | .pass, δ, g => .ok (δ, .nx) g
  | .rai k es, δ, g => (evs c es δ g).bind fun ds g => match c.P.exn k, ds with
    | some none, [] => .exc ⟨k, []⟩ g
    | some (some f), [d] => .exc ⟨k, [(f, d)]⟩ g
    | _, _ => .bad
  | .try_ i e hs, δ, g => match ev c e δ g with
    | .ok x g => .ok (setO i x δ, .nx) g
    | .exc x g => exh c x hs δ g
    | .bad => .bad
def exs (c : Cx) : Ss → Env → G → RS
  | .n, δ, g => .ok (δ, .nx) g
  | .c s r, δ, g => (exe c s δ g).bind fun z g => match z with
    | (δ, .nx) => exs c r δ g
    | z => .ok z g
/-- the clauses for an exception -/
def exh (c : Cx) (x : Exn) : Hs → Env → G → RS
  | .n, _, g => .exc x g
  | .c k i b r, δ, g => if (c.P.exn x.cls).isNone then .bad else if x.cls = k then (exs { c with cur := some x } b (unO i δ) g).bind fun z g => .ok (unO i z.1, z.2) g
    else exh c x r δ g
end
def runF (c : Cx) (fd : FDef) (args : List D) (g : G) : R D :=
  if args.length = fd.ps.length then
    (exs c fd.body (args.map some ++ List.replicate (fd.N.length - args.length) none) g).bind fun z g => match z.2 with
      | .nx => .ok .non g
      | .rt d => .ok d g
  else .bad
/-- the program's defs, run n calls deep: class ("" for none), name, arguments -/
def call (P : Pg) : Nat → String → String → List D → G → R D
  | 0, _, _, _, _ => .bad
  | 1, k, f, args, g => match P.fn k f with
    | some fd => runF ⟨P, fun _ _ _ _ => .bad, fun _ _ _ _ => .bad, none⟩ fd args g
    | none => .bad
  | n + 2, k, f, args, g => match P.fn k f with
    | some fd => runF ⟨P, call P (n + 1), call P n, none⟩ fd args g
    | none => .bad
end Uk
end
section
set_option Elab.async false
set_option linter.all false
set_option maxRecDepth 100000
set_option autoImplicit false
namespace Uk
open PySem PySem.Spec PyProof.Rows L2
/-! ## Texts -/
abbrev sS (s : String) : Str := Str.ofString s
theorem sS_cps (s : String) : (sS s).cps.toList = s.toList.map Char.toNat := by
  show (Str.ofString s).cps.toList = _
  rw [Str.ofString_eq_toList]
theorem toNat_inj : ∀ {a b : Char}, a.toNat = b.toNat → a = b := fun {a b} h => Char.ext (UInt32.toNat_inj.mp h)
theorem map_inj {α β : Type} {f : α → β} (hf : ∀ {a b}, f a = f b → a = b) : ∀ {l m : List α}, l.map f = m.map f → l = m
  | [], [], _ => rfl
  | [], _ :: _, h => by cases h
  | _ :: _, [], h => by cases h
  | a :: l, b :: m, h => by
    simp only [List.map_cons, List.cons.injEq] at h
    rw [hf h.1, map_inj hf h.2]
theorem sS_inj {a b : String} (h : sS a = sS b) : a = b := by
  have e : a.toList.map Char.toNat = b.toList.map Char.toNat := by rw [← sS_cps, ← sS_cps, h]
  have e2 : a.toList = b.toList := map_inj toNat_inj e
  exact String.toList_inj.mp e2
theorem sS_iff {a b : String} : sS a = sS b ↔ a = b := ⟨sS_inj, fun h => by rw [h]⟩
theorem Str_ext {x y : Str} (h : x.cps.toList = y.cps.toList) : x = y := by
  cases x with
  | mk a =>
    cases y with
    | mk b =>
      have e : a = b := Array.toList_inj.mp h
      rw [e]
theorem sS_app (a b : String) : sS (a ++ b) = sS a ++ sS b := by
  refine Str_ext ?_
  show (sS (a ++ b)).cps.toList = ((sS a).cps ++ (sS b).cps).toList
  rw [Array.toList_append, sS_cps, sS_cps, sS_cps, String.toList_append, List.map_append]
theorem sS_len (a : String) : (sS a).length = a.length := by
  show (sS a).cps.size = a.length
  rw [← Array.length_toList, sS_cps, List.length_map, String.length_toList]
/-! ## What an abstract value is in the heap -/
/-- a list that nobody writes -/
def FrL (K : PySem.W.Frag) (H : Hp) (a : Addr) (xs : List V) : Prop := (∃ o, H a = some (.frz o (.lst xs))) ∨
  ∃ (o : Obj) (its : Array Value) (n : Nat), K.lookup a = some o ∧ o.cls = .type "list" ∧ o.dict = none ∧ o.data = .seq its n ∧ its.size ≤ sizeLine ∧ Vals xs its.toList
theorem FrL.sq {K : PySem.W.Frag} {H : Hp} {a : Addr} {xs : List V} (h : FrL K H a xs) : SqL K H a xs := by
  rcases h with ⟨o, h⟩ | h
  · exact .inl (.inr ⟨o, h⟩)
  · exact .inr h
/-- what never changes: tuples, and what is frozen -/
def Kept (H H' : Hp) : Prop := (∀ b xs, H b = some (.tup xs) → H' b = some (.tup xs)) ∧ (∀ b o u, H b = some (.frz o u) → H' b = some (.frz o u)) ∧ ∀ b ps, H b = some (.xd ps) → H' b = some (.xd ps)
theorem Kept.refl (H : Hp) : Kept H H := ⟨fun _ _ h => h, fun _ _ _ h => h, fun _ _ h => h⟩
theorem Kept.trans {H H1 H2 : Hp} (a : Kept H H1) (b : Kept H1 H2) : Kept H H2 := ⟨fun c xs h => b.1 c xs (a.1 c xs h), fun c o u h => b.2.1 c o u (a.2.1 c o u h), fun c ps h => b.2.2 c ps (a.2.2 c ps h)⟩
theorem Kept.new {H : Hp} {p : Addr} {o : HO} (h : H p = none) : Kept H (upd H p o) := ⟨fun b xs e => by rw [upd_ne (ne_of_none e h)]; exact e, fun b o u e => by rw [upd_ne (ne_of_none e h)]; exact e, fun b ps e => by rw [upd_ne (ne_of_none e h)]; exact e⟩
theorem Kept.sqT {K : PySem.W.Frag} {H H' : Hp} (k : Kept H H') {a : Addr} {xs : List V} (h : SqT K H a xs) : SqT K H' a xs := by
  rcases h with (h | ⟨o, h⟩) | h
  · exact .inl (.inl (k.1 _ _ h))
  · exact .inl (.inr ⟨o, k.2.1 _ _ _ h⟩)
  · exact .inr h
theorem Kept.frL {K : PySem.W.Frag} {H H' : Hp} (k : Kept H H') {a : Addr} {xs : List V} (h : FrL K H a xs) : FrL K H' a xs := by
  rcases h with ⟨o, h⟩ | h
  · exact .inl ⟨o, k.2.1 _ _ _ h⟩
  · exact .inr h
mutual
/-- d stands as v; r: where the references stand -/
def VR (K : PySem.W.Frag) (r : List Addr) (H : Hp) : D → V → Prop
  | .non, v => v = .non
  | .bl b, v => v = .bl b
  | .int i, v => v = .int i
  | .str s, v => v = .str (sS s)
  | .tup xs, v => ∃ a vs, v = .ref a ∧ SqT K H a vs ∧ VRs K r H xs vs
  | .ref i, v => ∃ a, r[i]? = some a ∧ v = .ref a
  | .fro xs, v => ∃ a vs, v = .ref a ∧ FrL K H a vs ∧ VRs K r H xs vs
def VRs (K : PySem.W.Frag) (r : List Addr) (H : Hp) : List D → List V → Prop
  | [], vs => vs = []
  | x :: xs, vs => ∃ v q, vs = v :: q ∧ VR K r H x v ∧ VRs K r H xs q
end
/-- the state goes on -/
structure Ext (r : List Addr) (H : Hp) (r' : List Addr) (H' : Hp) : Prop where
  pre : ∃ t, r' = r ++ t
  kept : Kept H H'
theorem Ext.refl (r : List Addr) (H : Hp) : Ext r H r H := ⟨⟨[], by simp⟩, .refl H⟩
theorem Ext.trans {r r1 r2 : List Addr} {H H1 H2 : Hp} (a : Ext r H r1 H1) (b : Ext r1 H1 r2 H2) : Ext r H r2 H2 := by
  obtain ⟨⟨t, e⟩, k⟩ := a
  obtain ⟨⟨u, e2⟩, k2⟩ := b
  exact ⟨⟨t ++ u, by rw [e2, e, List.append_assoc]⟩, k.trans k2⟩
theorem Ext.get {r r1 : List Addr} {H H1 : Hp} (x : Ext r H r1 H1) {i : Nat} {a : Addr} (h : r[i]? = some a) : r1[i]? = some a := by
  obtain ⟨t, e⟩ := x.pre
  rw [e, List.getElem?_append_left (List.getElem?_eq_some_iff.mp h).1]
  exact h
section
variable {K : PySem.W.Frag} {r r1 : List Addr} {H H1 : Hp}
mutual
theorem VR.mono (x : Ext r H r1 H1) : ∀ (d : D) (v : V), VR K r H d v → VR K r1 H1 d v
  | .non, _, h => by unfold VR at h ⊢; exact h
  | .bl _, _, h => by unfold VR at h ⊢; exact h
  | .int _, _, h => by unfold VR at h ⊢; exact h
  | .str _, _, h => by unfold VR at h ⊢; exact h
  | .tup xs, v, h => by
    unfold VR at h ⊢
    obtain ⟨a, vs, e, h1, h2⟩ := h
    exact ⟨a, vs, e, x.kept.sqT h1, VRs.mono x xs vs h2⟩
  | .ref i, v, h => by
    unfold VR at h ⊢
    obtain ⟨a, h1, e⟩ := h
    exact ⟨a, x.get h1, e⟩
  | .fro xs, v, h => by
    unfold VR at h ⊢
    obtain ⟨a, vs, e, h1, h2⟩ := h
    exact ⟨a, vs, e, x.kept.frL h1, VRs.mono x xs vs h2⟩
theorem VRs.mono (x : Ext r H r1 H1) : ∀ (ds : List D) (vs : List V), VRs K r H ds vs → VRs K r1 H1 ds vs
  | [], _, h => by unfold VRs at h ⊢; exact h
  | d :: ds, vs, h => by
    unfold VRs at h ⊢
    obtain ⟨v, q, e, h1, h2⟩ := h
    exact ⟨v, q, e, VR.mono x d v h1, VRs.mono x ds q h2⟩
end
theorem VRs.nil_iff {vs : List V} : VRs K r H [] vs ↔ vs = [] := by unfold VRs; exact Iff.rfl
theorem VRs.cons {d : D} {ds : List D} {v : V} {vs : List V} (h : VR K r H d v) (h2 : VRs K r H ds vs) : VRs K r H (d :: ds) (v :: vs) := by
  unfold VRs
  exact ⟨v, vs, rfl, h, h2⟩
theorem VRs.inv {d : D} {ds : List D} {vs : List V} (h : VRs K r H (d :: ds) vs) : ∃ v q, vs = v :: q ∧ VR K r H d v ∧ VRs K r H ds q := by
  unfold VRs at h
  exact h
theorem VRs.length : ∀ {ds : List D} {vs : List V}, VRs K r H ds vs → vs.length = ds.length
  | [], vs, h => by rw [VRs.nil_iff.mp h]; rfl
  | d :: ds, vs, h => by
    obtain ⟨v, q, rfl, _, h2⟩ := h.inv
    simp [VRs.length h2]
theorem VRs.get : ∀ {ds : List D} {vs : List V} {i : Nat} {d : D}, VRs K r H ds vs → ds[i]? = some d → ∃ v, vs[i]? = some v ∧ VR K r H d v
  | [], _, _, _, _, e => by simp at e
  | x :: ds, vs, 0, d, h, e => by
    obtain ⟨v, q, rfl, h1, h2⟩ := h.inv
    simp at e
    subst e
    exact ⟨v, rfl, h1⟩
  | x :: ds, vs, i + 1, d, h, e => by
    obtain ⟨v, q, rfl, h1, h2⟩ := h.inv
    simp at e
    obtain ⟨w, e1, e2⟩ := VRs.get h2 e
    exact ⟨w, by simpa using e1, e2⟩
theorem VRs.append : ∀ {ds es : List D} {vs ws : List V}, VRs K r H ds vs → VRs K r H es ws → VRs K r H (ds ++ es) (vs ++ ws)
  | [], es, vs, ws, h, h2 => by rw [VRs.nil_iff.mp h]; exact h2
  | d :: ds, es, vs, ws, h, h2 => by
    obtain ⟨v, q, rfl, h3, h4⟩ := h.inv
    exact .cons h3 (VRs.append h4 h2)
theorem VRs.take : ∀ {ds : List D} {vs : List V} (n : Nat), VRs K r H ds vs → VRs K r H (ds.take n) (vs.take n)
  | _, _, 0, _ => by simp [VRs.nil_iff]
  | [], vs, n + 1, h => by rw [VRs.nil_iff.mp h]; simp [VRs.nil_iff]
  | d :: ds, vs, n + 1, h => by
    obtain ⟨v, q, rfl, h3, h4⟩ := h.inv
    exact .cons h3 (VRs.take n h4)
theorem VRs.drop : ∀ {ds : List D} {vs : List V} (n : Nat), VRs K r H ds vs → VRs K r H (ds.drop n) (vs.drop n)
  | _, _, 0, h => h
  | [], vs, n + 1, h => by rw [VRs.nil_iff.mp h]; simp [VRs.nil_iff]
  | d :: ds, vs, n + 1, h => by
    obtain ⟨v, q, rfl, h3, h4⟩ := h.inv
    exact VRs.drop n h4
theorem VRs.set : ∀ {ds : List D} {vs : List V} (i : Nat) {d : D} {v : V}, VRs K r H ds vs → VR K r H d v → VRs K r H (ds.set i d) (vs.set i v)
  | [], vs, i, d, v, h, _ => by rw [VRs.nil_iff.mp h]; simp [VRs.nil_iff]
  | x :: ds, vs, 0, d, v, h, h2 => by
    obtain ⟨w, q, rfl, h3, h4⟩ := h.inv
    exact .cons h2 h4
  | x :: ds, vs, i + 1, d, v, h, h2 => by
    obtain ⟨w, q, rfl, h3, h4⟩ := h.inv
    exact .cons h3 (VRs.set i h4 h2)
theorem VRs.erase : ∀ {ds : List D} {vs : List V} (i : Nat), VRs K r H ds vs → VRs K r H (ds.eraseIdx i) (vs.eraseIdx i)
  | [], vs, i, h => by rw [VRs.nil_iff.mp h]; simp [VRs.nil_iff]
  | x :: ds, vs, 0, h => by
    obtain ⟨w, q, rfl, h3, h4⟩ := h.inv
    exact h4
  | x :: ds, vs, i + 1, h => by
    obtain ⟨w, q, rfl, h3, h4⟩ := h.inv
    exact .cons h3 (VRs.erase i h4)
theorem VR.tup {ds : List D} {vs : List V} {a : Addr} (h : SqT K H a vs) (h2 : VRs K r H ds vs) : VR K r H (.tup ds) (.ref a) := by
  unfold VR
  exact ⟨a, vs, rfl, h, h2⟩
theorem VR.tup_inv {ds : List D} {v : V} (h : VR K r H (.tup ds) v) : ∃ a vs, v = .ref a ∧ SqT K H a vs ∧ VRs K r H ds vs := by
  unfold VR at h
  exact h
theorem VR.fro_inv {ds : List D} {v : V} (h : VR K r H (.fro ds) v) : ∃ a vs, v = .ref a ∧ FrL K H a vs ∧ VRs K r H ds vs := by
  unfold VR at h
  exact h
theorem VR.ref {i : Nat} {a : Addr} (h : r[i]? = some a) : VR K r H (.ref i) (.ref a) := by
  unfold VR
  exact ⟨a, h, rfl⟩
theorem VR.ref_inv {i : Nat} {v : V} (h : VR K r H (.ref i) v) : ∃ a, r[i]? = some a ∧ v = .ref a := by
  unfold VR at h
  exact h
theorem VR.int {i : Int} : VR K r H (.int i) (.int i) := by unfold VR; rfl
theorem VR.bl {i : Bool} : VR K r H (.bl i) (.bl i) := by unfold VR; rfl
theorem VR.str {s : String} : VR K r H (.str s) (.str (sS s)) := by unfold VR; rfl
theorem VR.non : VR K r H .non .non := by unfold VR; rfl
theorem VR.int_inv {i : Int} {v : V} (h : VR K r H (.int i) v) : v = .int i := by unfold VR at h; exact h
theorem VR.bl_inv {i : Bool} {v : V} (h : VR K r H (.bl i) v) : v = .bl i := by unfold VR at h; exact h
theorem VR.str_inv {i : String} {v : V} (h : VR K r H (.str i) v) : v = .str (sS i) := by unfold VR at h; exact h
theorem VR.non_inv {v : V} (h : VR K r H .non v) : v = .non := by unfold VR at h; exact h
end
/-- the pairs of a dict -/
def PRs (K : PySem.W.Frag) (r : List Addr) (H : Hp) : List (D × D) → List (Key × V) → Prop := Paired fun p q => VR K r H p.1 (kV q.1) ∧ VR K r H p.2 q.2
/-- the fields of an instance -/
def FRs (K : PySem.W.Frag) (r : List Addr) (H : Hp) : List (String × D) → List (Str × V) → Prop := Paired fun p q => q.1 = sS p.1 ∧ VR K r H p.2 q.2
/-! ### dicts keyed by tuples -/
mutual
def nk : D → NestedKey
  | .non => .none
  | .bl b => .num (if b = true then 1 else 0)
  | .int i => .num i
  | .str s => .text (sS s)
  | .tup xs => .tup (nks xs)
  | .ref _ => .none
  | .fro _ => .none
def nks : List D → List NestedKey
  | [] => []
  | x :: xs => nk x :: nks xs
end
/-- a dict's object, by its keys, where they stand, and its values -/
def dtO (wd : World) (a : Addr) (xs : List (NestedKey × Addr × V)) : HO := .ext fun h => (a == sysModules) = false ∧ xs.length ≤ sizeLine ∧ (xs.map (·.1)).Nodup ∧ ∃ ys : List (NestedKey × Addr × Value), Paired (fun p q => p.1 = q.1 ∧ p.2.1 = q.2.1 ∧ RelV p.2.2 q.2.2) xs ys ∧
  ∃ o es ep, h.get? a = some o ∧ o.ExactDict ∧ o.data = .dict es ep ∧ es.toList = ys.map fun x => ⟨x.1.hash wd, .ref x.2.1, x.2.2⟩
def DPTs (K : PySem.W.Frag) (r : List Addr) (H : Hp) : List (D × D) → List (NestedKey × Addr × V) → Prop := Paired fun p q => p.1.keyT = true ∧ q.1 = nk p.1 ∧ VR K r H p.1 (.ref q.2.1) ∧ VR K r H p.2 q.2.2
/-- what stands at a -/
def OR (K : PySem.W.Frag) (mg : Str → Option Value) (wd : World) (r : List Addr) (H : Hp) (a : Addr) : O → Prop
  | .lst xs => ∃ vs, H a = some (.lst vs) ∧ VRs K r H xs vs
  | .dK kvs => ∃ ps, H a = some (.dK ps) ∧ PRs K r H kvs ps
  | .dT kvs => ∃ xs, H a = some (dtO wd a xs) ∧ DPTs K r H kvs xs
  | .lk kvs => ∃ o xs, H a = some (.frz o (dtO wd a xs)) ∧ DPTs K r H kvs xs
  | .ins c fs => ∃ C dx ps, mg (sS c) = some (.ref C) ∧ H a = some (.ins C dx ps) ∧ FRs K r H fs ps
/-! ### the tables of code objects -/
/-- a code object of the written part, and its table, which is none of it -/
def codeTb (K : PySem.W.Frag) (v : Value) : Option (Addr × Addr) := match v with
  | .ref c => match K.lookup c with
    | some ⟨.type t, _, .fields vs, _⟩ => match vs[11]?, vs.getD 18 Value.none, vs.getD 7 Value.none, vs.getD 9 Value.none, vs.getD 10 Value.none with
      | some (Value.ref P), Value.str _ _, Value.int _ _, Value.bool _, Value.int _ _ => if t = "code" ∧ c ≠ P ∧ (K.lookup P).isNone = true then some (c, P) else none
      | _, _, _, _, _ => none
    | _ => none
  | _ => none
def lamQ (q : Str) : Str := (q ++ ".<locals>.") ++ "<lambda>"
def tbEnt (K : PySem.W.Frag) (p : Addr × Obj) : Option (Addr × Addr × Str) := match p.2.data with
  | .func fd => (codeTb K fd.code).map fun q => (q.1, q.2, lamQ fd.qualname)
  | _ => none
/-- code object, table, name of a lambda made there -/
def tbs (K : PySem.W.Frag) : List (Addr × Addr × Str) := K.filterMap (tbEnt K)
/-- a table: what stands in it bears the name q, and is held by nobody -/
def TbOk (r : List Addr) (H : Hp) (P : Addr) (q : Str) : Prop := ∃ ps : Array Value, H P = some (.tbl ps) ∧ TriplesOk ps.toList ∧ ∀ (pos : Pos) (cv : Value), codeAmong pos ps.toList = some cv → ∃ c, cv = .ref c ∧ H c = some (LamX.CodeO c q) ∧ c ∉ r
/-- the abstract heap is held; r: where its objects stand -/
structure Rel (K : PySem.W.Frag) (mg : Str → Option Value) (wd : World) (r : List Addr) (g : G) (H : Hp) : Prop where
  len : r.length = g.length
  nd : r.Nodup
  at_ : ∀ (i : Nat) (a : Addr) (o : O), r[i]? = some a → g[i]? = some o → OR K mg wd r H a o
  tab : ∀ t ∈ tbs K, TbOk r H t.2.1 t.2.2
section
variable {K : PySem.W.Frag} {mg : Str → Option Value} {wd : World} {r r1 : List Addr} {H H1 : Hp} {g : G} {a : Addr} {o : O}
theorem PRs.mono (x : Ext r H r1 H1) {kvs : List (D × D)} {ps : List (Key × V)} (h : PRs K r H kvs ps) : PRs K r1 H1 kvs ps := L2.Paired.mapP h fun _ _ q => ⟨VR.mono x _ _ q.1, VR.mono x _ _ q.2⟩
theorem FRs.mono (x : Ext r H r1 H1) {kvs : List (String × D)} {ps : List (Str × V)} (h : FRs K r H kvs ps) : FRs K r1 H1 kvs ps := L2.Paired.mapP h fun _ _ q => ⟨q.1, VR.mono x _ _ q.2⟩
theorem DPTs.mono (x : Ext r H r1 H1) {kvs : List (D × D)} {ps : List (NestedKey × Addr × V)} (h : DPTs K r H kvs ps) : DPTs K r1 H1 kvs ps := L2.Paired.mapP h fun _ _ q => ⟨q.1, q.2.1, VR.mono x _ _ q.2.2.1, VR.mono x _ _ q.2.2.2⟩
theorem OR.mono (x : Ext r H r1 H1) (e : H1 a = H a) (h : OR K mg wd r H a o) : OR K mg wd r1 H1 a o := by
  cases o with
  | lst xs =>
    obtain ⟨vs, h1, h2⟩ := h
    exact ⟨vs, e.trans h1, VRs.mono x _ _ h2⟩
  | dK kvs =>
    obtain ⟨ps, h1, h2⟩ := h
    exact ⟨ps, e.trans h1, h2.mono x⟩
  | dT kvs =>
    obtain ⟨ps, h1, h2⟩ := h
    exact ⟨ps, e.trans h1, h2.mono x⟩
  | lk kvs =>
    obtain ⟨o, ps, h1, h2⟩ := h
    exact ⟨o, ps, e.trans h1, h2.mono x⟩
  | ins c fs =>
    obtain ⟨C, dx, ps, h0, h1, h2⟩ := h
    exact ⟨C, dx, ps, h0, e.trans h1, h2.mono x⟩
theorem OR.some (h : OR K mg wd r H a o) : H a ≠ none := by
  cases o with
  | lst xs => obtain ⟨vs, h1, h2⟩ := h; rw [h1]; exact fun z => by cases z
  | dK kvs => obtain ⟨ps, h1, h2⟩ := h; rw [h1]; exact fun z => by cases z
  | dT kvs => obtain ⟨ps, h1, h2⟩ := h; rw [h1]; exact fun z => by cases z
  | lk kvs => obtain ⟨o, ps, h1, h2⟩ := h; rw [h1]; exact fun z => by cases z
  | ins c fs => obtain ⟨C, dx, ps, h0, h1, h2⟩ := h; rw [h1]; exact fun z => by cases z
theorem Rel.get (R : Rel K mg wd r g H) {i : Nat} (h : r[i]? = some a) : ∃ o, g[i]? = some o ∧ OR K mg wd r H a o := by
  have hi : i < g.length := by rw [← R.len]; exact (List.getElem?_eq_some_iff.mp h).1
  exact ⟨g[i], List.getElem?_eq_getElem hi, R.at_ i a _ h (List.getElem?_eq_getElem hi)⟩
theorem Rel.addr (R : Rel K mg wd r g H) {i : Nat} (h : g[i]? = some o) : ∃ a, r[i]? = some a ∧ OR K mg wd r H a o := by
  have hi : i < r.length := by rw [R.len]; exact (List.getElem?_eq_some_iff.mp h).1
  exact ⟨r[i], List.getElem?_eq_getElem hi, R.at_ i _ o (List.getElem?_eq_getElem hi) h⟩
theorem Rel.tracked (R : Rel K mg wd r g H) (h : a ∈ r) : H a ≠ none := by
  obtain ⟨i, hi, e⟩ := List.mem_iff_getElem.mp h
  obtain ⟨o, _, ho⟩ := R.get (a := a) (i := i) (by rw [List.getElem?_eq_getElem hi, e])
  exact ho.some
theorem Rel.fresh (R : Rel K mg wd r g H) (h : H a = none) : a ∉ r := fun z => R.tracked z h
theorem TbOk.at {P : Addr} {q : Str} (h : TbOk r H P q) (k : ∀ b u, H b = some u → b ∉ r → H1 b = some u) (hP : P ∉ r) (e : ∀ b, b ∉ r → H b ≠ none → b ∉ r1) : TbOk r1 H1 P q := by
  obtain ⟨ps, h1, h2, h3⟩ := h
  refine ⟨ps, k _ _ h1 hP, h2, fun pos cv hc => ?_⟩
  obtain ⟨c, e1, e2, e3⟩ := h3 pos cv hc
  exact ⟨c, e1, k _ _ e2 e3, e c e3 (by rw [e2]; exact fun z => by cases z)⟩
theorem OR.ntbl (h : OR K mg wd r H a o) (ps : Array Value) : H a ≠ Option.some (.tbl ps) := by
  cases o with
  | lst xs => obtain ⟨vs, h1, h2⟩ := h; rw [h1]; exact fun z => by cases z
  | dK kvs => obtain ⟨ps, h1, h2⟩ := h; rw [h1]; exact fun z => by cases z
  | dT kvs => obtain ⟨ps, h1, h2⟩ := h; rw [h1]; exact fun z => by cases z
  | lk kvs => obtain ⟨o, ps, h1, h2⟩ := h; rw [h1]; exact fun z => by cases z
  | ins c fs => obtain ⟨C, dx, ps, h0, h1, h2⟩ := h; rw [h1]; exact fun z => by cases z
theorem Rel.tabN (R : Rel K mg wd r g H) {t : Addr × Addr × Str} (ht : t ∈ tbs K) : t.2.1 ∉ r := fun z => by
  obtain ⟨i, hi, e⟩ := List.mem_iff_getElem.mp z
  obtain ⟨o, _, ho⟩ := R.get (a := t.2.1) (i := i) (by rw [List.getElem?_eq_getElem hi, e])
  obtain ⟨ps, h1, _⟩ := R.tab t ht
  exact ho.ntbl ps h1
/-- something new beside what is held (a tuple, a dict of an error) -/
theorem Rel.beside (R : Rel K mg wd r g H) {p : Addr} {ho : HO} (h : H p = none) : Rel K mg wd r g (upd H p ho) := by
  refine ⟨R.len, R.nd, fun i b o e1 e2 => (R.at_ i b o e1 e2).mono ⟨⟨[], by simp⟩, .new h⟩ ?_, fun t ht => (R.tab t ht).at (fun b u e _ => by rw [upd_ne (ne_of_none e h)]; exact e) (R.tabN ht) fun _ z _ => z⟩
  exact upd_ne fun z => R.fresh h (z ▸ List.mem_of_getElem? e1)
theorem Ext.new {p : Addr} {ho : HO} (h : H p = none) : Ext r H r (upd H p ho) := ⟨⟨[], by simp⟩, .new h⟩
theorem Ext.newR {p : Addr} {ho : HO} (h : H p = none) : Ext r H (r ++ [p]) (upd H p ho) := ⟨⟨[p], rfl⟩, .new h⟩
theorem get_last {α : Type} {l : List α} {x : α} : (l ++ [x])[l.length]? = some x := by simp
/-- a new object -/
theorem Rel.new (R : Rel K mg wd r g H) {p : Addr} {ho : HO} (h : H p = none) (n : OR K mg wd (r ++ [p]) (upd H p ho) p o) : Rel K mg wd (r ++ [p]) (g ++ [o]) (upd H p ho) := by
  refine ⟨by simp [R.len], ?_, fun i b u e1 e2 => ?_, fun t ht => (R.tab t ht).at (fun b u e _ => by rw [upd_ne (ne_of_none e h)]; exact e) (R.tabN ht) fun b z n w => ?_⟩
  rotate_left 2
  · rcases List.mem_append.mp w with w | w
    · exact z w
    · rw [List.mem_singleton.mp w] at n
      exact n h
  · rw [List.nodup_append]
    exact ⟨R.nd, by simp, fun a ha b hb z => R.fresh h (by simp at hb; rw [← hb, ← z]; exact ha)⟩
  · by_cases hi : i < r.length
    · rw [List.getElem?_append_left hi] at e1
      rw [List.getElem?_append_left (by rw [← R.len]; exact hi)] at e2
      exact (R.at_ i b u e1 e2).mono (.newR h) (upd_ne fun z => R.fresh h (z ▸ List.mem_of_getElem? e1))
    · have hi2 : i = r.length := by
        have := (List.getElem?_eq_some_iff.mp e1).1
        simp at this
        omega
      subst hi2
      rw [get_last] at e1
      rw [R.len, get_last] at e2
      cases e1
      cases e2
      exact n
/-- what may be written over -/
def Wr : HO → Prop
  | .tup _ => False
  | .frz _ _ => False
  | .xd _ => False
  | _ => True
theorem Kept.put {ho ho' : HO} (h : H a = some ho) (w : Wr ho) : Kept H (upd H a ho') := by
  refine ⟨fun b xs e => ?_, fun b o u e => ?_, fun b ps e => ?_⟩
  · rw [upd_ne fun z => by subst z; rw [h] at e; cases e; exact w]
    exact e
  · rw [upd_ne fun z => by subst z; rw [h] at e; cases e; exact w]
    exact e
  · rw [upd_ne fun z => by subst z; rw [h] at e; cases e; exact w]
    exact e
/-- an object is changed -/
theorem Rel.put (R : Rel K mg wd r g H) {i : Nat} {o' : O} {ho ho' : HO} (hi : r[i]? = some a) (h : H a = some ho) (w : Wr ho) (n : OR K mg wd r (upd H a ho') a o') : Rel K mg wd r (g.set i o') (upd H a ho') := by
  refine ⟨by simp [R.len], R.nd, fun j b u e1 e2 => ?_, fun t ht => (R.tab t ht).at (fun b u e z => by rw [upd_ne (fun y : b = a => z (by rw [y]; exact List.mem_of_getElem? hi))]; exact e) (R.tabN ht) fun _ z _ => z⟩
  have il : i < r.length := (List.getElem?_eq_some_iff.mp hi).1
  by_cases hj : j = i
  · subst hj
    rw [hi] at e1
    cases e1
    rw [List.getElem?_set_self (by rw [← R.len]; exact il)] at e2
    cases e2
    exact n
  · rw [List.getElem?_set_ne (Ne.symm hj)] at e2
    refine (R.at_ j b u e1 e2).mono ⟨⟨[], by simp⟩, .put h w⟩ (upd_ne fun z => ?_)
    subst z
    exact hj ((nodup_ix2 R.nd e1 hi))
where
  nodup_ix2 {l : List Addr} (hl : l.Nodup) {i j : Nat} {x : Addr} (a : l[i]? = some x) (b : l[j]? = some x) : i = j := by
    obtain ⟨h1, e1⟩ := List.getElem?_eq_some_iff.mp a
    obtain ⟨h2, e2⟩ := List.getElem?_eq_some_iff.mp b
    exact (List.getElem_inj hl).mp (e1.trans e2.symm)
theorem Ext.put {ho ho' : HO} (h : H a = Option.some ho) (w : Wr ho) : Ext r H r (upd H a ho') := ⟨⟨[], by simp⟩, .put h w⟩
end
/-! ## The frame's slots -/
/-- the slots hold what the environment says -/
def ER (K : PySem.W.Frag) (r : List Addr) (H : Hp) (e : Env) (s : L2.St) : Prop := e.length = s.length ∧ ∀ (i : Nat) (d : D), e[i]? = some (some d) → ∃ v, s[i]? = some (some v) ∧ VR K r H d v
section
variable {K : PySem.W.Frag} {r r1 : List Addr} {H H1 : Hp} {e : Env} {s : L2.St}
theorem ER.mono (x : Ext r H r1 H1) (h : ER K r H e s) : ER K r1 H1 e s := ⟨h.1, fun i d q => let ⟨v, a, b⟩ := h.2 i d q; ⟨v, a, VR.mono x _ _ b⟩⟩
theorem ER.set (h : ER K r H e s) {d : D} {v : V} (i : Nat) (q : VR K r H d v) : ER K r H (e.set i (some d)) (s.set i (some v)) := by
  refine ⟨by simp [h.1], fun j c z => ?_⟩
  by_cases hj : j = i
  · subst hj
    have hl : j < e.length := by
      have := (List.getElem?_eq_some_iff.mp z).1
      simpa using this
    rw [List.getElem?_set_self hl] at z
    cases z
    exact ⟨v, by rw [List.getElem?_set_self (by rw [← h.1]; exact hl)], q⟩
  · rw [List.getElem?_set_ne (Ne.symm hj)] at z
    obtain ⟨w, a, b⟩ := h.2 j c z
    exact ⟨w, by rw [List.getElem?_set_ne (Ne.symm hj)]; exact a, b⟩
theorem ER.unset (h : ER K r H e s) (i : Nat) : ER K r H (e.set i none) (s.set i none) := by
  refine ⟨by simp [h.1], fun j c z => ?_⟩
  by_cases hj : j = i
  · subst hj
    have hl : j < e.length := by
      have := (List.getElem?_eq_some_iff.mp z).1
      simpa using this
    rw [List.getElem?_set_self hl] at z
    cases z
  · rw [List.getElem?_set_ne (Ne.symm hj)] at z
    obtain ⟨w, a, b⟩ := h.2 j c z
    exact ⟨w, by rw [List.getElem?_set_ne (Ne.symm hj)]; exact a, b⟩
theorem ER.wipe (h : ER K r H e s) : ∀ vs : List Nat, ER K r H (Uk.wipe e vs) (L2.wipe s vs)
  | [] => h
  | v :: vs => (ER.wipe h vs).unset v
end
/-! ## Results -/
/-- an exception, as it lies -/
def XR (K : PySem.W.Frag) (mg : Str → Option Value) (r : List Addr) (H : Hp) (x : Exn) (cls : Value) (d : Option Addr) : Prop :=
  ∃ C, mg (sS x.cls) = some (.ref C) ∧ cls = .ref C ∧ match x.fs with
    | [] => d = none
    | fs => ∃ a ps, d = some a ∧ H a = some (.xd ps) ∧ FRs K r H fs ps
/-- behind an expression's run -/
def Post (K : PySem.W.Frag) (mg : Str → Option Value) (wd : World) (E : XK) (r : List Addr) (H : Hp) (m : R D) (Q : VK) : Prop := match m with
  | .ok d g => ∀ r' v H', Ext r H r' H' → Rel K mg wd r' g H' → VR K r' H' d v → Q v H'
  | .exc x g => ∀ r' H' cls dx, Ext r H r' H' → Rel K mg wd r' g H' → XR K mg r' H' x cls dx → E cls dx H'
  | .bad => False
def PostA (K : PySem.W.Frag) (mg : Str → Option Value) (wd : World) (E : XK) (r : List Addr) (H : Hp) (m : R (List D)) (Q : List V → Hp → Prop) : Prop := match m with
  | .ok d g => ∀ r' v H', Ext r H r' H' → Rel K mg wd r' g H' → VRs K r' H' d v → Q v H'
  | .exc x g => ∀ r' H' cls dx, Ext r H r' H' → Rel K mg wd r' g H' → XR K mg r' H' x cls dx → E cls dx H'
  | .bad => False
section
variable {K : PySem.W.Frag} {mg : Str → Option Value} {wd : World} {E : XK} {r r1 : List Addr} {H H1 : Hp}
theorem Post.mono {m : R D} {Q Q' : VK} (h : Post K mg wd E r H m Q) (x : Ext r H r1 H1) (hq : ∀ v H, Q v H → Q' v H) : Post K mg wd E r1 H1 m Q' := by
  cases m with
  | ok d g => exact fun r' v H' y R q => hq _ _ (h r' v H' (x.trans y) R q)
  | exc e g => exact fun r' H' c d y R q => h r' H' c d (x.trans y) R q
  | bad => exact h
theorem Post.ext {m : R D} {Q : VK} (h : Post K mg wd E r H m Q) (x : Ext r H r1 H1) : Post K mg wd E r1 H1 m Q := h.mono x fun _ _ q => q
end
end Uk
end
section
set_option Elab.async false
set_option linter.all false
set_option maxRecDepth 100000
set_option autoImplicit false
set_option maxHeartbeats 1000000
namespace Uk
open PySem PySem.Spec PyProof.Rows L2
/-! ## Data, for the library's == -/
mutual
def pyD : D → PyData
  | .non => .none
  | .bl b => .bool b
  | .int i => .int i
  | .str s => .str (sS s)
  | .tup xs => .tuple (pyDs xs)
  | .ref _ => .none
  | .fro _ => .none
def pyDs : List D → List PyData
  | [] => []
  | x :: xs => pyD x :: pyDs xs
end
theorem strOk_sS (s : String) : PyData.strOk (sS s) = true := by
  unfold PyData.strOk
  rw [← Array.all_toList, sS_cps, List.all_map, List.all_eq_true]
  intro c _
  have h := c.valid
  simp only [UInt32.isValidChar, Nat.isValidChar] at h
  have h2 : c.toNat < 1114112 := by
    have : c.toNat = c.val.toNat := rfl
    omega
  show decide (c.toNat < 1114112) = true
  exact decide_eq_true h2
mutual
theorem pyD_lay : ∀ d : D, (pyD d).canLay0 = true
  | .non => by unfold pyD; simp only [PyData.canLay0]
  | .bl b => by unfold pyD; simp only [PyData.canLay0]
  | .int i => by unfold pyD; simp only [PyData.canLay0]
  | .str s => by unfold pyD; simp only [PyData.canLay0]; exact strOk_sS s
  | .tup xs => by unfold pyD; simp only [PyData.canLay0]; exact pyDs_lay xs
  | .ref _ => by unfold pyD; simp only [PyData.canLay0]
  | .fro _ => by unfold pyD; simp only [PyData.canLay0]
theorem pyDs_lay : ∀ ds : List D, PyData.canLayAll0 (pyDs ds) = true
  | [] => by unfold pyDs; simp only [PyData.canLayAll0]
  | d :: ds => by unfold pyDs; simp only [PyData.canLayAll0]; rw [pyD_lay d, pyDs_lay ds]; rfl
end
mutual
theorem pyD_dep : ∀ d : D, (pyD d).depth ≤ d.dep
  | .non => by unfold pyD; simp only [PyData.depth]; omega
  | .bl b => by unfold pyD; simp only [PyData.depth]; omega
  | .int i => by unfold pyD; simp only [PyData.depth]; omega
  | .str s => by unfold pyD; simp only [PyData.depth]; omega
  | .tup xs => by unfold pyD D.dep; simp only [PyData.depth]; have := pyDs_dep xs; omega
  | .ref _ => by unfold pyD; simp only [PyData.depth]; omega
  | .fro _ => by unfold pyD; simp only [PyData.depth]; omega
theorem pyDs_dep : ∀ ds : List D, PyData.depthAll (pyDs ds) ≤ D.deps ds
  | [] => by unfold pyDs D.deps; simp only [PyData.depthAll]; omega
  | d :: ds => by unfold pyDs D.deps; simp only [PyData.depthAll]; have := pyD_dep d; have := pyDs_dep ds; omega
end
theorem pyD_shaped {d : D} (h : d.dep ≤ 60) : SeqAt.shaped (pyD d) = true := by
  show ((pyD d).canLay0 && decide ((pyD d).depth ≤ 64)) = true
  have := pyD_dep d
  rw [pyD_lay d, Bool.true_and]
  exact decide_eq_true (by omega)
theorem pyDs_shapedL {ds : List D} (h : D.deps ds ≤ 60) : SeqAt.shaped (.list (pyDs ds)) = true := by
  show ((PyData.list (pyDs ds)).canLay0 && decide ((PyData.list (pyDs ds)).depth ≤ 64)) = true
  have h2 := pyDs_dep ds
  simp only [PyData.canLay0, PyData.depth]
  rw [pyDs_lay ds, Bool.true_and]
  exact decide_eq_true (by omega)
theorem str_beq (x y : String) : (sS x == sS y) = (x == y) := by
  by_cases h : x = y
  · subst h
    simp
  · have h2 : sS x ≠ sS y := fun z => h (sS_inj z)
    rw [beq_eq_false_iff_ne.mpr h, beq_eq_false_iff_ne.mpr h2]
mutual
theorem pyD_eqv : ∀ d e : D, d.dep ≤ 60 → e.dep ≤ 60 → PyData.eqv (pyD d) (pyD e) = D.eqv d e
  | .ref _, _, h, _ => absurd h (by unfold D.dep; omega)
  | .fro _, _, h, _ => absurd h (by unfold D.dep; omega)
  | .non, e, _, h => by
    cases e <;> first
      | exact absurd h (by unfold D.dep; omega)
      | simp only [pyD, PyData.eqv, D.eqv]
  | .bl b, e, _, h => by
    cases e <;> first
      | exact absurd h (by unfold D.dep; omega)
      | simp only [pyD, PyData.eqv, D.eqv]
  | .int i, e, _, h => by
    cases e <;> first
      | exact absurd h (by unfold D.dep; omega)
      | simp only [pyD, PyData.eqv, D.eqv]
  | .str s, e, _, h => by
    cases e <;> first
      | exact absurd h (by unfold D.dep; omega)
      | (simp only [pyD, PyData.eqv, D.eqv]; done)
      | (simp only [pyD, PyData.eqv, D.eqv]; exact str_beq _ _)
  | .tup xs, e, h1, h2 => by
    cases e with
    | tup ys =>
      simp only [pyD, PyData.eqv, D.eqv]
      exact pyDs_eqv xs ys (by unfold D.dep at h1; omega) (by unfold D.dep at h2; omega)
    | ref _ => exact absurd h2 (by unfold D.dep; omega)
    | fro _ => exact absurd h2 (by unfold D.dep; omega)
    | _ => simp only [pyD, PyData.eqv, D.eqv]
theorem pyDs_eqv : ∀ ds es : List D, D.deps ds ≤ 60 → D.deps es ≤ 60 → PyData.eqvAll (pyDs ds) (pyDs es) = D.eqvs ds es
  | [], [], _, _ => by simp only [pyDs, PyData.eqvAll, D.eqvs]
  | [], _ :: _, _, _ => by simp only [pyDs, PyData.eqvAll, D.eqvs]
  | _ :: _, [], _, _ => by simp only [pyDs, PyData.eqvAll, D.eqvs]
  | d :: ds, e :: es, h1, h2 => by
    unfold D.deps at h1 h2
    simp only [pyDs, PyData.eqvAll, D.eqvs]
    rw [pyD_eqv d e (by omega) (by omega), pyDs_eqv ds es (by omega) (by omega)]
end
theorem fold_rep {α : Type} (x : Array α) : ∀ (k : Nat) (acc : Array α), ((List.replicate k x).foldl (· ++ ·) acc).toList = acc.toList ++ Uk.rep x.toList k
  | 0, acc => by simp [Uk.rep]
  | k + 1, acc => by
    rw [List.replicate_succ, List.foldl_cons, fold_rep x k]
    simp [Uk.rep]
theorem rep_map {α β : Type} (f : α → β) (xs : List α) : ∀ k : Nat, (Uk.rep xs k).map f = Uk.rep (xs.map f) k
  | 0 => rfl
  | k + 1 => by
    show (xs ++ Uk.rep xs k).map f = xs.map f ++ Uk.rep (xs.map f) k
    rw [List.map_append, rep_map f xs k]
theorem rep_nil {α : Type} : ∀ k : Nat, Uk.rep ([] : List α) k = []
  | 0 => rfl
  | k + 1 => rep_nil k
theorem mulT_eq {z : String} {j : Int} (h : 0 ≤ j) : sS (String.ofList (Uk.rep z.toList j.toNat)) = PySem.Txt.mul (sS z) j := by
  apply Str.ext'
  apply Array.toList_inj.mp
  rw [sS_cps, String.toList_ofList, rep_map, ← sS_cps]
  unfold PySem.Txt.mul
  by_cases h1 : j < 1
  · rw [if_pos h1]
    have : j = 0 := by omega
    subst this
    rfl
  · rw [if_neg h1]
    by_cases h2 : (j == 1 || (sS z).length == 0) = true
    · rw [if_pos h2]
      rw [Bool.or_eq_true] at h2
      rcases h2 with h2 | h2
      · have : j = 1 := by simpa using h2
        subst this
        show (sS z).cps.toList ++ [] = _
        rw [List.append_nil]
      · have h3 : (sS z).cps.size = 0 := beq_iff_eq.mp h2
        have : (sS z).cps.toList = [] := by
          rw [← List.length_eq_zero_iff, Array.length_toList]
          exact h3
        rw [this, rep_nil]
    · rw [if_neg h2]
      show _ = ((List.replicate j.toNat (sS z).cps).foldl (· ++ ·) #[]).toList
      rw [fold_rep]
      rfl
theorem mulT_ok {z : String} {j : Int} (h : 0 ≤ j) (h2 : j ≤ 1000) (h3 : z.length ≤ 1000) : PySem.MulOk (sS z) j := by
  have hz : (sS z).length ≤ 1000 := by rw [sS_len]; exact h3
  have hm : (sS z).length * j.toNat ≤ 1000 * 1000 := Nat.mul_le_mul hz (by omega)
  refine ⟨?_, fun q _ => ?_, fun _ _ => ?_⟩
  · rw [Bool.or_eq_false_iff]
    exact ⟨decide_eq_false (by omega), decide_eq_false (by omega)⟩
  · have : (1000 : Int) ≤ (2 ^ 63 - 1) / j := by
      rw [Int.le_ediv_iff_mul_le (by omega)]
      omega
    omega
  · have hs : sizeLine = 16777216 := rfl
    exact decide_eq_false (by omega)
section
variable {K : PySem.W.Frag} {r : List Addr} {H : Hp}
mutual
theorem VR.dp : ∀ (d : D) (v : V), VR K r H d v → d.dep ≤ 60 → Dp K H v (pyD d)
  | .non, v, h, _ => by rw [h.non_inv]; unfold pyD; exact .non
  | .bl b, v, h, _ => by rw [h.bl_inv]; unfold pyD; exact .bl b
  | .int i, v, h, _ => by rw [h.int_inv]; unfold pyD; exact .int i
  | .str s, v, h, _ => by rw [h.str_inv]; unfold pyD; exact .str _
  | .tup xs, v, h, k => by
    obtain ⟨a, vs, e, h1, h2⟩ := h.tup_inv
    rw [e]
    unfold pyD
    exact .tup h1 (VRs.dp xs vs h2 (by unfold D.dep at k; omega))
  | .ref _, _, _, k => absurd k (by unfold D.dep; omega)
  | .fro _, _, _, k => absurd k (by unfold D.dep; omega)
theorem VRs.dp : ∀ (ds : List D) (vs : List V), VRs K r H ds vs → D.deps ds ≤ 60 → DpAll K H vs (pyDs ds)
  | [], vs, h, _ => by rw [VRs.nil_iff.mp h]; unfold pyDs; exact .nil
  | d :: ds, vs, h, k => by
    obtain ⟨v, q, e, h1, h2⟩ := h.inv
    rw [e]
    unfold pyDs
    unfold D.deps at k
    exact .cons (VR.dp d v h1 (by omega)) (VRs.dp ds q h2 (by omega))
end
end
/-! ## Results again -/
section
variable {K : PySem.W.Frag} {mg : Str → Option Value} {wd : World} {E : XK} {r : List Addr} {H : Hp} {g : G} {Q : VK} {d : D} {v : V}
theorem Post.here (h : Post K mg wd E r H (.ok d g) Q) (R : Rel K mg wd r g H) (q : VR K r H d v) : Q v H := h r v H (.refl r H) R q
/-- a new tuple -/
theorem Post.newTup {ds : List D} {vs : List V} {p : Addr} (h : Post K mg wd E r H (.ok (.tup ds) g) Q) (R : Rel K mg wd r g H) (q : VRs K r H ds vs) (hp : H p = none) : Q (.ref p) (upd H p (.tup vs)) :=
  h r _ _ (.new hp) (R.beside hp) (.tup (.of upd_same) (VRs.mono (.new hp) _ _ q))
/-- a new list -/
theorem Post.newLst {ds : List D} {vs : List V} {p : Addr} (h : Post K mg wd E r H (.ok (.ref g.length) (g ++ [.lst ds])) Q) (R : Rel K mg wd r g H) (q : VRs K r H ds vs) (hp : H p = none) : Q (.ref p) (upd H p (.lst vs)) :=
  h (r ++ [p]) _ _ (.newR hp) (R.new hp ⟨vs, upd_same, VRs.mono (.newR hp) _ _ q⟩) (.ref (by rw [← R.len]; exact get_last))
end
theorem line_eq : line = sizeLine := by rw [sizeLine_eq]; rfl
/-! ## Two-place operations -/
def bopOp : Bop → Operator
  | .add => .Add
  | .sub => .Sub
  | .mul => .Mult
  | .fdiv => .FloorDiv
  | .mod => .Mod
  | .pow => .Pow
theorem lsOf_some {g : G} {i : Nat} {xs : List D} (h : lsOf g i = some xs) : g[i]? = some (.lst xs) := by
  unfold lsOf at h
  cases e : g[i]? with
  | none => rw [e] at h; cases h
  | some o =>
    rw [e] at h
    cases o with
    | lst ys => cases h; rfl
    | _ => cases h
theorem Rel.lst {K : PySem.W.Frag} {mg : Str → Option Value} {wd : World} {r : List Addr} {g : G} {H : Hp} (R : Rel K mg wd r g H) {i : Nat} {xs : List D} {v : V} (h : lsOf g i = some xs) (q : VR K r H (.ref i) v) :
    ∃ a vs, r[i]? = some a ∧ v = .ref a ∧ H a = some (.lst vs) ∧ VRs K r H xs vs := by
  obtain ⟨a, e, rfl⟩ := q.ref_inv
  obtain ⟨vs, h1, h2⟩ := R.at_ i a _ e (lsOf_some h)
  exact ⟨a, vs, e, rfl, h1, h2⟩
theorem VRs.rep {K : PySem.W.Frag} {r : List Addr} {H : Hp} {ds : List D} {vs : List V} (h : VRs K r H ds vs) : ∀ n : Nat, VRs K r H (Uk.rep ds n) (List.replicate n vs).flatten
  | 0 => by
    show VRs K r H [] (List.replicate 0 vs).flatten
    simp [VRs.nil_iff]
  | n + 1 => by
    show VRs K r H (ds ++ Uk.rep ds n) (List.replicate (n + 1) vs).flatten
    rw [List.replicate_succ, List.flatten_cons]
    exact h.append (VRs.rep h n)
theorem VRs.nil_of {K : PySem.W.Frag} {r : List Addr} {H : Hp} {ds : List D} {vs : List V} (h : VRs K r H ds vs) : vs = [] ↔ ds = [] := by
  have := h.length
  constructor
  · rintro rfl
    exact List.length_eq_zero_iff.mp this.symm
  · rintro rfl
    exact List.length_eq_zero_iff.mp this
section
variable {X : L2.Cx} {E : XK} {r : List Addr} {H : Hp} {g : G} {Q : VK} {pins : List (Addr × Obj)} {s : Shared} {σ : L2.St}
theorem bin_ok {o : Bop} {x y : D} {v w : V} {a b : Value} (I : Inv X pins σ H s) (R : Rel X.K X.mg X.w r g H) (hx : VR X.K r H x v) (hy : VR X.K r H y w) (ra : RelV v a) (rb : RelV w b)
    (hp : Post X.K X.mg X.w E r H (binop o x y g) Q) : wpAny (model X.prog X.w) X.A (binaryOp (bopOp o) a b) (EP X pins σ Q) X.xe s := by
  cases o with
  | add =>
    cases x with
    | int i =>
      cases y with
      | int j =>
        rw [hx.int_inv] at ra
        rw [hy.int_inv] at rb
        exact op_add pins s σ H _ _ a b Q I ra rb ⟨i, j, rfl, rfl, Post.here hp R .int⟩
      | _ => exact hp.elim
    | str i =>
      cases y with
      | str j =>
        rw [hx.str_inv] at ra
        rw [hy.str_inv] at rb
        have hp2 : Post X.K X.mg X.w E r H (newS (i ++ j) g) Q := hp
        unfold newS at hp2
        split at hp2
        · rename_i hl
          refine op_add_str pins s σ H _ _ a b Q I ra rb ⟨_, _, rfl, rfl, ?_, ?_⟩
          · rw [sS_len, sS_len, ← line_eq]
            simpa using hl
          · rw [← sS_app]
            exact Post.here hp2 R .str
        · exact hp2.elim
      | _ => exact hp.elim
    | tup xs =>
      cases y with
      | tup ys =>
        obtain ⟨p, vs, rfl, h1, h2⟩ := hx.tup_inv
        obtain ⟨q, ws, rfl, h3, h4⟩ := hy.tup_inv
        have hp2 : Post X.K X.mg X.w E r H (newT (xs ++ ys) g) Q := hp
        unfold newT at hp2
        split at hp2
        · rename_i hl
          have e1 := h2.length
          have e2 := h4.length
          refine op_catA pins s σ H _ _ a b Q I ra rb ⟨p, q, vs, ws, rfl, rfl, h1, h3, ?_, fun z => ?_, fun _ z => ?_, fun _ _ t ht => Post.newTup hp2 R (h2.append h4) ht⟩
          · rw [e1, e2, ← line_eq]
            simpa using hl
          · have z2 := h2.nil_of.mp z
            subst z2
            exact Post.here hp2 R hy
          · have z2 := h4.nil_of.mp z
            subst z2
            rw [List.append_nil] at hp2
            exact Post.here hp2 R hx
        · exact hp2.elim
      | _ => exact hp.elim
    | ref i =>
      cases y with
      | ref j =>
        have hp2 : Post X.K X.mg X.w E r H (match lsOf g i, lsOf g j with
          | some xs, some ys => newL (xs ++ ys) g
          | _, _ => .bad) Q := hp
        split at hp2
        · rename_i xs ys e1 e2
          obtain ⟨p, vs, _, rfl, h1, h2⟩ := R.lst e1 hx
          obtain ⟨q, ws, _, rfl, h3, h4⟩ := R.lst e2 hy
          unfold newL at hp2
          split at hp2
          · rename_i hl
            refine op_cat pins s σ H _ _ a b Q I ra rb ⟨p, q, vs, ws, rfl, rfl, h1, h3, ?_, fun t ht => Post.newLst hp2 R (h2.append h4) ht⟩
            rw [h2.length, h4.length, ← line_eq]
            simpa using hl
          · exact hp2.elim
        · exact hp2.elim
      | _ => exact hp.elim
    | _ => cases y <;> exact hp.elim
  | sub =>
    cases x with
    | int i =>
      cases y with
      | int j =>
        rw [hx.int_inv] at ra
        rw [hy.int_inv] at rb
        exact op_sub pins s σ H _ _ a b Q I ra rb ⟨i, j, rfl, rfl, Post.here hp R .int⟩
      | _ => exact hp.elim
    | _ => cases y <;> exact hp.elim
  | mul =>
    cases x with
    | int i =>
      cases y with
      | int j =>
        rw [hx.int_inv] at ra
        rw [hy.int_inv] at rb
        have hp2 : Post X.K X.mg X.w E r H (if mulOk i j = true then .ok (.int (i * j)) g else .bad) Q := hp
        split at hp2
        · rename_i hl
          refine op_mul pins s σ H _ _ a b Q I ra rb ⟨i, j, rfl, rfl, ?_, Post.here hp2 R .int⟩
          unfold mulOk at hl
          simp only [Bool.or_eq_true, Bool.and_eq_true, decide_eq_true_eq] at hl
          exact hl
        · exact hp2.elim
      | _ => exact hp.elim
    | str z =>
      cases y with
      | int j =>
        rw [hx.str_inv] at ra
        rw [hy.int_inv] at rb
        have hp2 : Post X.K X.mg X.w E r H (if 0 ≤ j ∧ j ≤ 1000 ∧ z.length ≤ 1000 then .ok (.str (String.ofList (Uk.rep z.toList j.toNat))) g else .bad) Q := hp
        split at hp2
        · rename_i hl
          obtain ⟨t, rfl⟩ := ra
          obtain ⟨u, rfl⟩ := rb
          refine PySem.SB.mul (mulT_ok hl.1 hl.2.1 hl.2.2) fun t' k => ?_
          rw [← mulT_eq hl.1]
          exact ⟨.str _, H, I.tok _, ⟨_, rfl⟩, Post.here hp2 R .str⟩
        · exact hp2.elim
      | _ => exact hp.elim
    | tup xs =>
      cases y with
      | int j =>
        obtain ⟨p, vs, rfl, h1, h2⟩ := hx.tup_inv
        rw [hy.int_inv] at rb
        have hp2 : Post X.K X.mg X.w E r H (if 2 ≤ j ∧ j ≤ 1000 ∧ 0 < xs.length ∧ xs.length ≤ 1000 then .ok (.tup (Uk.rep xs j.toNat)) g else .bad) Q := hp
        split at hp2
        · rename_i hl
          have e1 := h2.length
          refine op_repT pins s σ H _ _ a b Q I ra rb ⟨p, j, vs, rfl, rfl, h1, ?_, hl.1, hl.2.1, by rw [e1]; exact hl.2.2.2, fun t ht => Post.newTup hp2 R (h2.rep _) ht⟩
          rintro rfl
          simp at e1
          omega
        · exact hp2.elim
      | _ => exact hp.elim
    | _ => cases y <;> exact hp.elim
  | fdiv =>
    cases x with
    | int i =>
      cases y with
      | int j =>
        rw [hx.int_inv] at ra
        rw [hy.int_inv] at rb
        have hp2 : Post X.K X.mg X.w E r H (if 0 < j ∧ j < 1073741824 then .ok (.int (i / j)) g else .bad) Q := hp
        split at hp2
        · rename_i hl
          exact op_fdiv pins s σ H _ _ a b Q I ra rb ⟨i, j, rfl, rfl, hl, Post.here hp2 R .int⟩
        · exact hp2.elim
      | _ => exact hp.elim
    | _ => cases y <;> exact hp.elim
  | mod =>
    cases x with
    | int i =>
      cases y with
      | int j =>
        rw [hx.int_inv] at ra
        rw [hy.int_inv] at rb
        have hp2 : Post X.K X.mg X.w E r H (if 0 < j then .ok (.int (i % j)) g else .bad) Q := hp
        split at hp2
        · rename_i hl
          exact op_mod pins s σ H _ _ a b Q I ra rb ⟨i, j, rfl, rfl, hl, Post.here hp2 R .int⟩
        · exact hp2.elim
      | _ => exact hp.elim
    | _ => cases y <;> exact hp.elim
  | pow =>
    cases x with
    | int i =>
      cases y with
      | int j =>
        rw [hx.int_inv] at ra
        rw [hy.int_inv] at rb
        have hp2 : Post X.K X.mg X.w E r H (if 0 ≤ j ∧ j ≤ 1000000 ∧ i.natAbs < 2 ^ 64 then .ok (.int (i ^ j.toNat)) g else .bad) Q := hp
        split at hp2
        · rename_i hl
          exact op_pow pins s σ H _ _ a b Q I ra rb ⟨i, j, rfl, rfl, hl, Post.here hp2 R .int⟩
        · exact hp2.elim
      | _ => exact hp.elim
    | _ => cases y <;> exact hp.elim
end
end Uk
end
section
set_option Elab.async false
set_option linter.all false
set_option maxRecDepth 100000
set_option autoImplicit false
set_option maxHeartbeats 2000000
namespace Uk
open PySem PySem.Spec PyProof.Rows L2
open PySem.W PySem.Calls PySem.HandSPX
/-! ## An own error with one field -/
def eA (f : String) (p1 p2 : Pos) : Arguments := { posonlyargs := [], args := [{ arg := "self", annotation := none, pos := p1 }, { arg := sS f, annotation := none, pos := p2 }], vararg := none, kwonlyargs := [], kw_defaults := [], kwarg := none, defaults := [] }
def eB (f : String) (q1 q2 q3 q4 : Pos) : List Stmt := [.Assign [.Attribute (.Name "self" q1) (sS f) q2] (.Name (sS f) q3) q4]
def eS (f : String) : Scope := { kind := .function, names := [(sS "self", .local), (sS f, .local)], isGenerator := false, isCoroutine := false, more := [] }
/-- what the written part says of the class at C, whose __init__ stands at fI and stores the field f -/
structure ExT (K : Frag) (C fI : Addr) (f : String) : Prop where
  cls : ∃ nm q N bs bm sn sub ab col dd k0 k1 k2 k3 k5, K.lookup C = some (excClassObj nm q C N bs bm true sn sub ab col dd k0 k1 k2 k3 k5 "ValueError.__new__") ∧ refsVE bm = true
  sa : findIn K (.ref C) "__setattr__" = some (some (.builtin "object.__setattr__"))
  ga : findIn K (.ref C) "__getattribute__" = some (some (.builtin "BaseException.__getattribute__"))
  gg : findIn K (.ref C) "__getattr__" = some none
  noN : findIn K (.ref C) (sS f) = some none
  iC : findIn K (.ref C) "__init__" = some (some (.ref fI))
  tC : typeIn K (.ref fI) = some (.type "function")
  kC : keepIn K (.ref C) = true
  exC : subIn K (.ref C) (.type "BaseException") = some true
  tyC : typeIn K (.ref C) = some (.type "type")
  hdC : hasDictIn K C = true
  fn : ∃ (qual : Str) (oc : Value) (od : Option Addr) (kV doc pm : Value) (an : Option Addr) (cdv ct : Value) (osl : Array (Option Value)) (p1 p2 q1 q2 q3 q4 : Pos),
    K.lookup fI = some ⟨oc, od, .func (fnOf "__init__" qual (eA f p1 p2) (eB f q1 q2 q3 q4) (eS f) .none kV doc pm an cdv ct), osl⟩ ∧ codeIn K cdv qual = true
/-- a name that may be a field of an error: what is plain of it -/
structure FldN (f : String) : Prop where
  deb : ((sS f == ("__debug__" : Str)) = false)
  bt : ∀ (qual : Str) (kV doc pm : Value) (an : Option Addr) (cdv ct : Value) (p1 p2 q1 q2 q3 q4 : Pos) (x : Addr) (v : Value),
    bindArgs (fnOf "__init__" qual (eA f p1 p2) (eB f q1 q2 q3 q4) (eS f) .none kV doc pm an cdv ct) ⟨[.ref x, v], []⟩ = pure [(sS "self", .ref x), (sS f, v)]
  al : ∀ (x : Addr) (v : Value), ([(sS "self", Value.ref x), (sS f, v)].all fun y => List.lookup y.fst (eS f).names == some NameKind.local || List.lookup y.fst (eS f).names == some NameKind.cell) = true
  kf : ∀ (qual : Str) (L a : Addr) (cdv : Value), (envOfC qual (eS f) L a cdv).kindOf (sS f) = some .local
  ks : ∀ (qual : Str) (L a : Addr) (cdv : Value), (envOfC qual (eS f) L a cdv).kindOf (sS "self") = some .local
  lf : ∀ (qual : Str) (L a : Addr) (cdv : Value) (x : Addr) (v : Value), bindL (envOfC qual (eS f) L a cdv).kindOf [(sS "self", .ref x), (sS f, v)] (fun _ => none) (sS f) = some v
  ls : ∀ (qual : Str) (L a : Addr) (cdv : Value) (x : Addr) (v : Value), bindL (envOfC qual (eS f) L a cdv).kindOf [(sS "self", .ref x), (sS f, v)] (fun _ => none) (sS "self") = some (.ref x)
theorem loc_ld {M : Model} {s : Shared} {name : Str} {scope : Scope} {L a : Addr} {cd : Value} {m : Str → Option Value} {x : Str} {pos : Pos} {v : Value} {Q : Value → Shared → Prop} {A : Around} {E : Value → Shared → Prop} (hn : s.heap.Ns L m) (hv : m x = some v) (h : Q v s)
    (hk : scope.kind = .function) (hl : (envOfC name scope L a cd).kindOf x = some .local) (hd : (x == ("__debug__" : Str)) = false) :
    wpAny M A (eval (.Name x pos) (envOfC name scope L a cd)) Q E s := wpAny_Name (wpAny_loadName_local hk hl hn hv h) hd
structure ExEnd (h h' : Heap) (x C dx t1 : Addr) (f : String) (v : Value) : Prop where
  keep : ∀ b o, b ≠ x → h.get? b = some o → h'.get? b = some o
  obj : h'.get? x = some { cls := .ref C, dict := some dx, data := .fields #[.ref t1, .none, .none, .none, .bool false, .none] }
  dbig : h.objs.size ≤ dx
  dne : dx ≠ x
  ns : h'.Ns1 dx (fun y => if y = sS f then some v else none)
structure ExMade (h h' : Heap) (e C d : Addr) (f : String) (v : Value) : Prop where
  keep : ∀ b o, h.get? b = some o → h'.get? b = some o
  new : h.objs.size ≤ e
  obj : ∃ oe vs, h'.get? e = some oe ∧ oe.cls = .ref C ∧ oe.dict = some d ∧ oe.data = .fields vs ∧ vs[1]? = some .none
  dbig : h.objs.size ≤ d
  dne : d ≠ e
  ns : h'.Ns1 d (fun y => if y = sS f then some v else none)
section
variable {prog : Program} {w : World} {A : Around} {E : Value → Shared → Prop} {R : Result → Shared → Prop} {s : Shared} {K : Frag} {C fI : Addr} {f : String}
theorem ex_init (FN : FldN f) (T : ExT K C fI f) {x t0 : Addr} {v : Value} (X : K.In s.heap) (hlim : s.heap.NoLimit) (hx : s.heap.get? x = some (excO C t0)) (hnx : K.lookup x = none) (hroom : A.depth < recursionLimit)
    (hq : ∀ h' tk dx, ExEnd s.heap h' x C dx t0 f v → R (.ok (.ret .none)) { s with heap := h', toks := tk }) :
    codeAny (model prog w) A (.call (.ref fI) ⟨[.ref x, v], []⟩) R s := by
  obtain ⟨qual, oc, od, kV, doc, pm, an, cdv, ct, osl, p1, p2, q1, q2, q3, q4, ho, hcd⟩ := T.fn
  obtain ⟨nm, q, N, bs, bm, sn, sub, ab, col, dd, k0, k1, k2, k3, k5, hC, hbm⟩ := T.cls
  have hcl : clsIn K C = some { name := nm, bases := bs, mro := .ref C :: bm, ns := N, qualname := q, hasDict := true, slotNames := sn, subclasses := sub, abstract := ab, collection := col, hasDel := false } := by unfold clsIn; rw [hC] <;> rfl
  refine Att.call_fn (binds := [(sS "self", .ref x), (sS f, v)]) X hlim ho hcd hroom (BindsTo.of_eq (FN.bt ..)) (FN.al x v) (fun s₁ IC => ?_) rfl rfl rfl
  obtain ⟨h₁, tk₁, rfl⟩ := IC.toInCall.same
  have k : ∀ b o, s.heap.get? b = some o → h₁.get? b = some o := IC.toInCall.keep
  have hn := IC.toInCall.ns
  have hxL : s.heap.objs.size ≠ x := Nat.ne_of_gt (Heap.lt_size hx)
  have X₁ : K.In h₁ := X.keeps k
  have hx₁ := k _ _ hx
  show wpAny _ _ (execs _ _) _ _ _
  refine wpAny_execs_cons (plainObj_wpAny_Assign_Attribute ?_)
  refine loc_ld hn (FN.lf ..) (loc_ld hn (FN.ls ..) ?_ rfl (FN.ks ..) rfl) rfl (FN.kf ..) FN.deb
  refine set_plain X₁ (ox := excO C t0) (od := none) ⟨hx₁, rfl, rfl, trivial⟩ T.sa ?_
  refine exc_osa X₁ hx₁ hcl (show refsVE (.ref C :: bm) = true from hbm) rfl T.noN (fun h₃ tk₃ dx k₃ dn dne hx₃ hn₃ => ?_)
  show wpAny _ _ (execs _ _) _ _ _
  have z : s.heap.objs.size < h₁.objs.size := hn.lt
  exact wpAny_execs_nil (hq h₃ tk₃ dx ⟨fun b o hb e => k₃ b o hb (k b o e), hx₃, Nat.le_of_lt (Nat.lt_of_lt_of_le z dn), dne, hn₃⟩)
theorem ex_made (FN : FldN f) (T : ExT K C fI f) {v : Value} (X : K.In s.heap) (hlim : s.heap.NoLimit) (hroom : A.depth + 1 < recursionLimit)
    (hq : ∀ h' tk e d, ExMade s.heap h' e C d f v → R (.ok (.ret (.ref e))) { s with heap := h', toks := tk }) :
    codeAny (model prog w) A (.call (.ref C) ⟨[v], []⟩) R s := by
  obtain ⟨nm, q, N, bs, bm, sn, sub, ab, col, dd, k0, k1, k2, k3, k5, hC, hbm⟩ := T.cls
  obtain ⟨hp, g, dr, tk, os⟩ := s
  have k : ∀ b o, hp.get? b = some o → ((hp.push (kdv_tup [v])).push (excO C hp.objs.size)).get? b = some o := fun b o e => Heap.get?_push_of_some _ (Heap.get?_push_of_some _ e)
  have hget : ((hp.push (kdv_tup [v])).push (excO C hp.objs.size)).get? (hp.objs.size + 1) = some (excO C hp.objs.size) := by heap_get
  have hnx : K.lookup (hp.objs.size + 1) = none := by
    cases e : K.lookup (hp.objs.size + 1) with
    | none => rfl
    | some o =>
      have z : hp.get? (hp.objs.size + 1) = some o := X _ _ e
      exact absurd (Nat.lt_of_succ_lt (Heap.lt_size z)) (Nat.lt_irrefl _)
  have one : [v].length ≤ sizeLine := by
    rw [sizeLine_eq]
    exact (by decide : 1 ≤ 16777216)
  refine call_own F.excBase_ValueError (fun X => refsVE_contains X bm hbm) (X _ _ hC) (looks_findIn X T.iC) (fun self => bind_fn X self T.tC) one ?_
  refine ex_init (s := ⟨(hp.push (kdv_tup [v])).push (excO C hp.objs.size), g, dr, tk, os⟩) FN T (X.keeps k) (hlim.keeps k) hget hnx ?_ fun h' tk' dx ⟨k', hx, dn, dne, hns⟩ => ?_
  · show A.depth + 1 < recursionLimit
    exact hroom
  · have old : ∀ b o, hp.get? b = some o → h'.get? b = some o := fun b o e => k' b o (Nat.ne_of_lt (Nat.lt_succ_of_lt (Heap.lt_size e))) (k b o e)
    have z : hp.objs.size + 1 + 1 ≤ dx := by
      first
        | (simpa only [Heap.size_push] using dn)
        | exact dn
        | (have q := dn; rw [Heap.size_push, Heap.size_push] at q; exact q)
    exact ⟨rfl, hq h' tk' (hp.objs.size + 1) dx ⟨old, Nat.le_succ _, ⟨_, _, hx, rfl, rfl, rfl, rfl⟩, Nat.le_trans (Nat.le_trans (Nat.le_succ _) (Nat.le_succ _)) z, dne, hns⟩⟩
end
theorem fldN_path : FldN "path" where
  deb := by decide
  bt := by intros; rfl
  al := by intros; rfl
  kf := by intros; rfl
  ks := by intros; rfl
  lf := by intros; rfl
  ls := by intros; rfl
theorem fldN_index : FldN "index" where
  deb := by decide
  bt := by intros; rfl
  al := by intros; rfl
  kf := by intros; rfl
  ks := by intros; rfl
  lf := by intros; rfl
  ls := by intros; rfl
theorem fldN_line : FldN "line" where
  deb := by decide
  bt := by intros; rfl
  al := by intros; rfl
  kf := by intros; rfl
  ks := by intros; rfl
  lf := by intros; rfl
  ls := by intros; rfl
theorem fldN_example : FldN "example" where
  deb := by decide
  bt := by intros; rfl
  al := by intros; rfl
  kf := by intros; rfl
  ks := by intros; rfl
  lf := by intros; rfl
  ls := by intros; rfl
end Uk
end
section
set_option Elab.async false
set_option linter.all false
set_option maxRecDepth 100000
set_option autoImplicit false
set_option maxHeartbeats 1000000
namespace Uk
open PySem PySem.Spec PyProof.Rows L2
/-! ## Is this syntax that one? -/
def visB (sc : Scope) (x : Str) : Bool := match sc.names.lookup x with
  | some .local => true
  | some .cell => true
  | some .free => true
  | _ => false
def nmB (x : Str) : Bool := !(x == ("__debug__" : Str)) && !(x == ("__classdict__" : Str)) && !(x == ("__name__" : Str))
def glB (sc : Scope) (x : Str) : Bool := nmB x && match sc.names.lookup x with
  | some .globalImplicit => true
  | _ => false
def ckC (d : D) (c : Const) : Bool := match d, c with
  | .non, .none => true
  | .bl a, .bool b => a == b
  | .int i, .int j => decide (i = j)
  | .str s, .str x => decide (sS s = x)
  | _, _ => false
def ckN (N : List String) (i : Nat) (x : Str) : Bool := match N[i]? with
  | some s => decide (sS s = x)
  | none => false
def bopB (o : Bop) (p : Operator) : Bool := decide (bopOp o = p)
def copOp : Cop → CmpOp
  | .eq => .Eq
  | .ne => .NotEq
  | .lt => .Lt
  | .le => .LtE
  | .gt => .Gt
  | .ge => .GtE
  | .isn => .Is
  | .notn => .IsNot
  | .in_ => .In
  | .nin => .NotIn
/-- is o == None written as such -/
def isnOk (o : Cop) (b : E) : Bool := match o with
  | .isn => isnC b
  | .notn => isnC b
  | _ => true
def copB (o : Cop) (p : CmpOp) (b : E) : Bool := decide (copOp o = p) && isnOk o b
def noSup (e : PySem.Expr) : Bool := match e with
  | .Call (.Name _ _) [] [] _ => false
  | _ => true
def lineB (p q : Pos) : Bool := p.endLine == q.line
def isIf (e : E) : Bool := match e with
  | .ite _ _ _ => true
  | _ => false
/-- the names of a comprehension's block -/
def ownOf (N : List String) (vs : List Nat) : List (Str × Nat) := vs.filterMap fun v => (N[v]?).map fun s => (sS s, v)
def tgB (N : List String) (sc : Scope) (i : Nat) (x : Str) : Bool := ckN N i x && match sc.names.lookup x with
  | some .local => true
  | some .cell => true
  | _ => false
def ckTs (N : List String) (sc : Scope) : List Nat → List PySem.Expr → Bool
  | [], [] => true
  | i :: is, .Name x _ :: ps => tgB N sc i x && ckTs N sc is ps
  | _, _ => false
def ckT (N : List String) (sc : Scope) : Tg → PySem.Expr → Bool
  | .one i, .Name x _ => tgB N sc i x
  | .many l, .Tuple ps _ _ => ckTs N sc l ps
  | _, _ => false
def tgIx : Tg → List Nat
  | .one i => [i]
  | .many l => l
/-- enumerate asks a target of the form a, b -/
def tgFor : It → Tg → Bool
  | .enum _, .one _ => false
  | _, _ => true
def Bi.name : Bi → String
  | .len => "len"
  | .abs => "abs"
  | .int => "int"
  | .list => "list"
  | .tuple => "tuple"
  | .all => "all"
  | .any => "any"
  | .max => "max"
  | .min => "min"
  | .str => "str"
/-- no star, no slice alone -/
def plainP (p : PySem.Expr) : Bool := match p with
  | .Starred _ _ => false
  | .Slice _ _ _ _ => false
  | .Set _ _ _ => false
  | _ => true
/-- f(g(p)) -/
def setArg (p : PySem.Expr) : Option (Str × Str × PySem.Expr) := match p with
  | .Call (.Name x _) [.Call (.Name y _) [q] [] _] [] _ => some (x, y, q)
  | _ => none
/-- {k: v for t in i} -/
def dcArg (p : PySem.Expr) : Option (PySem.Expr × PySem.Expr × PySem.Expr × PySem.Expr × Scope) := match p with
  | .DictComp k v [⟨t, i, [], asy⟩] scope _ => if asy = 0 then some (k, v, t, i, scope) else none
  | _ => none
/-- f(q) -/
def oneArg (p : PySem.Expr) : Option (Str × PySem.Expr) := match p with
  | .Call (.Name x _) [q] [] _ => some (x, q)
  | _ => none
/-- q[::-1] -/
def revArg (p : PySem.Expr) : Option PySem.Expr := match p with
  | .Subscript q (.Slice none none (some (.UnaryOp .USub (.Constant (.int k) _ _) _)) _) _ => if k = 1 then some q else none
  | _ => none
/-- q in x -/
def dinArg (p : PySem.Expr) : Option (Str × PySem.Expr) := match p with
  | .Compare q [.In] [.Name x _] _ => some (x, q)
  | _ => none
/-- x.index(q) -/
def gixArg (p : PySem.Expr) : Option (Str × PySem.Expr) := match p with
  | .Call (.Attribute (.Name x _) m apos) [q] [] pos => if m = sS "index" ∧ lineB apos pos = true then some (x, q) else none
  | _ => none
/-- x[q] -/
def dixArg (p : PySem.Expr) : Option (Str × PySem.Expr) := match p with
  | .Subscript (.Name x _) q _ => some (x, q)
  | _ => none
/-- sorted(q, key=lambda y: f(y)): q, f, y, the lambda's names -/
def srtArg (p : PySem.Expr) : Option (PySem.Expr × Str × Str × Scope) := match p with
  | .Call (.Name s _) [q] [⟨some k, .Lambda ⟨[], [⟨y, none, _⟩], none, [], [], none, []⟩ (.Call (.Name f _) [.Name y2 _] [] _) scope _, _⟩] _ => if s = sS "sorted" ∧ k = sS "key" ∧ y = y2 then some (q, f, y, scope) else none
  | _ => none
/-- what the parameters of lambdas are called -/
def lamYs : List String := ["told", "node", "standing"]
/-- the names of a lambda of one parameter, which knows nothing of the names around it -/
def lamB (y : Str) (sc : Scope) : Bool := decide (sc.kind = .function) && !sc.isCoroutine && !sc.isGenerator && decide (sc.names.lookup y = some .local) && sc.names.all (fun z => !decide (z.2 = .free))
mutual
def ckE (P : Pg) (N : List String) (sc : Scope) : E → PySem.Expr → Bool
  | .nope, p => plainP p
  | .cst d, .Constant c _ _ => ckC d c
  | .loc i, .Name x _ => ckN N i x && visB sc x && nmB x
  | .glo s, .Name x _ => decide (sS s = x) && glB sc x && (P.con s).isSome
  | .tup es, .Tuple ps _ _ => ckEs P N sc es ps
  | .lst es, .List ps _ => ckEs P N sc es ps
  | .fmt a, .FormattedValue q k none _ => decide (k = -1) && ckE P N sc a q
  | .fst es, .JoinedStr ps _ => decide (2 ≤ ps.length) && ckEs P N sc es ps
  | .bin o a b, .BinOp p q t _ => bopB o q && ckE P N sc a p && ckE P N sc b t
  | .neg a, .UnaryOp .USub p _ => ckE P N sc a p
  | .cmp o a b, .Compare p [q] [t] _ => copB o q b && ckE P N sc a p && ckE P N sc b t
  | .chn a o b o2 d, .Compare p [q, q2] [t, u] _ => copB o q b && copB o2 q2 d && ckE P N sc a p && ckE P N sc b t && ckE P N sc d u
  | .and_ a b, .BoolOp .And (p :: q :: l) pos => ckE P N sc a p && (match l with
    | [] => ckE P N sc b q
    | _ => ckE P N sc b (.BoolOp .And (q :: l) pos))
  | .or_ a b, .BoolOp .Or (p :: q :: l) pos => ckE P N sc a p && (match l with
    | [] => ckE P N sc b q
    | _ => ckE P N sc b (.BoolOp .Or (q :: l) pos))
  | .not_ a, .UnaryOp .Not p _ => ckE P N sc a p
  | .ite t a b, .IfExp p q u _ => ckE P N sc t p && !isIf t && ckE P N sc a q && ckE P N sc b u
  | .ix a i, .Subscript p q _ => ckE P N sc a p && ckE P N sc i q
  | .cut a lo hi, .Subscript p (.Slice l h none _) _ => ckE P N sc a p && (match l with
    | none => isnC lo
    | some q => !isnC lo && ckE P N sc lo q) && (match h with
    | none => isnC hi
    | some q => !isnC hi && ckE P N sc hi q)
  | .att a f, .Attribute p x _ => decide (sS f = x) && noSup p && ckE P N sc a p
  | .call f es, .Call (.Name x _) ps [] _ => decide (sS f = x) && glB sc x && (P.fn "" f).isSome && ckEs P N sc es ps
  | .mk k es, .Call (.Name x _) ps [] _ => decide (sS k = x) && glB sc x && P.cls k && !P.prop k "__init__" && ckEs P N sc es ps
  | .met a m es, .Call (.Attribute p x apos) ps [] pos => decide (sS m = x) && noSup p && lineB apos pos && decide (ps.length < 30) && ckE P N sc a p && ckEs P N sc es ps
  | .bi f es, .Call (.Name x _) ps [] _ => decide (sS f.name = x) && glB sc x && !ps.isEmpty && ckEs P N sc es ps
  | .isi a t, .Call (.Name x _) [p, .Name y _] [] _ => decide (sS "isinstance" = x) && glB sc x && decide (sS t = y) && glB sc y && (P.cls t || ["int", "bool", "str", "tuple", "list", "dict"].contains t) && ckE P N sc a p
  | .comp vs elt tg it cond, .ListComp p gs scope _ => match gs with
    | [⟨pt, pi, ifs, asy⟩] => decide (asy = 0) && decide ((ownOf N vs).map (·.2) = vs) && blkC (N.map sS) sc scope (ownOf N vs) && ckT N scope tg pt && (tgIx tg).all (fun i => vs.contains i) && tgFor it tg && ckI P N sc it pi && (match ifs with
      | [] => (match cond with
        | .cst (.bl true) => true
        | _ => false)
      | [q] => ckE P N (relS scope sc) cond q && !isIf cond
      | _ => false) && ckE P N (relS scope sc) elt p
    | _ => false
  | .sset a, p => (match setArg p with
    | some (x, y, q) => decide (sS "sorted" = x) && glB sc x && decide (sS "set" = y) && glB sc y && ckE P N sc a q
    | none => false)
  | .lset a, p => (match setArg p with
    | some (x, y, q) => decide (sS "len" = x) && glB sc x && decide (sS "set" = y) && glB sc y && ckE P N sc a q
    | none => false)
  | .sor a, p => (match oneArg p with
    | some (x, q) => decide (sS "sorted" = x) && glB sc x && ckE P N sc a q
    | none => false)
  | .gix x a, p => (match gixArg p with
    | some (y, q) => decide (sS x = y) && glB sc y && (match P.con x with
      | some (.tup _) => true
      | _ => false) && ckE P N sc a q
    | none => false)
  | .din x a, p => (match dinArg p with
    | some (y, q) => decide (sS x = y) && glB sc y && (P.dct x).isSome && ckE P N sc a q
    | none => false)
  | .dix x a, p => (match dixArg p with
    | some (y, q) => decide (sS x = y) && glB sc y && (P.dct x).isSome && ckE P N sc a q
    | none => false)
  | .srt a f z, p => (match srtArg p with
    | some (q, f2, y, sc2) => decide (sS f = f2) && decide (sS z = y) && lamYs.contains z && glB sc (sS "sorted") && nmB y && lamB y sc2 && glB sc2 f2 && (P.fn "" f).isSome && ckE P N sc a q
    | none => false)
  | .rev a, p => (match revArg p with
    | some q => ckE P N sc a q
    | none => false)
  | .dco t vs k v tg it, p => (match dcArg p with
    | some (kx, vx, pt, pi, scope) => !t && decide ((ownOf N vs).map (·.2) = vs) && blkC (N.map sS) sc scope (ownOf N vs) && ckT N scope tg pt && (tgIx tg).all (fun i => vs.contains i) && tgFor it tg && ckI P N sc it pi && ckE P N (relS scope sc) k kx && ckE P N (relS scope sc) v vx
    | none => false)
  | .dsp t ps, .Dict ks vs _ => (t || !ks.isEmpty) && decide (ks.length ≤ 15) && ckPs P N sc ps ks vs
  | _, _ => false
def ckPs (P : Pg) (N : List String) (sc : Scope) : Ps → List (Option PySem.Expr) → List PySem.Expr → Bool
  | .n, [], [] => true
  | .c k v r, some p :: ps, q :: qs => ckE P N sc k p && ckE P N sc v q && ckPs P N sc r ps qs
  | _, _, _ => false
def ckEs (P : Pg) (N : List String) (sc : Scope) : Es → List PySem.Expr → Bool
  | .n, [] => true
  | .c e es, p :: ps => ckE P N sc e p && ckEs P N sc es ps
  | _, _ => false
def ckI (P : Pg) (N : List String) (sc : Scope) : It → PySem.Expr → Bool
  | .seq e, p => ckE P N sc e p
  | .enum e, .Call (.Name x _) [p] [] _ => decide (sS "enumerate" = x) && glB sc x && ckE P N sc e p
  | .gd x, .Name y _ => decide (sS x = y) && glB sc y && (P.dct x).isSome
  | .r1 e, .Call (.Name x _) [p] [] _ => decide (sS "range" = x) && glB sc x && ckE P N sc e p
  | .r3 a b d, .Call (.Name x _) [p, q, t] [] _ => decide (sS "range" = x) && glB sc x && ckE P N sc a p && ckE P N sc b q && ckE P N sc d t
  | _, _ => false
end
/-! ## What the top has left -/
def bnames : List String := ["len", "abs", "int", "str", "list", "tuple", "all", "any", "max", "min", "isinstance", "enumerate", "range", "sorted", "set", "bool", "dict"]
/-- a def's promise: what the interpreter says -/
def SpOf (K : PySem.W.Frag) (mg : Str → Option Value) (wd : World) (n : Nat) (f : List D → G → R D) : Sp := fun vs H Q E => vs.length = n ∧ ∃ (r : List Addr) (g : G) (ds : List D), Rel K mg wd r g H ∧ VRs K r H ds vs ∧ Post K mg wd E r H (f ds g) Q
/-- the def fd stands at a -/
structure FnAt (K : PySem.W.Frag) (ck : Arguments → List Stmt → Scope → FDef → Bool) (fd : FDef) (a : Addr) (dt : FuncData) : Prop where
  ex : ∃ name qual params body scope dvs kws, FunD K name qual params body scope dvs kws a dt ∧ ck params body scope fd = true
  bi : Binds K dt (fd.ps.map sS) []
  lm : ∃ c P, dt.code = .ref c ∧ (c, P, lamQ dt.qualname) ∈ tbs K ∧ ∀ t ∈ tbs K, t.2.1 = P → t.2.2 = lamQ dt.qualname
/-- the class k stands at C -/
structure ClsAt (K : PySem.W.Frag) (P : Pg) (k : String) (C : Addr) : Prop where
  cl : Cls K C
  fld : ∀ f, P.fld k f = true → NoAttr K C (sS f)
  mkr : ∃ f, Mk K C f
  o1 : PySem.W.findIn K (.ref C) "__class__" = some (some (.builtin "object.__class__"))
  o2 : PySem.W.specialIn K (.builtin "object.__class__") "__get__" = some (some (.builtin "getset_descriptor.__get__"))
  o3 : PySem.W.takesIn K (.builtin "object.__class__") = some true
  o4 : PySem.W.mroIn K C (.type "object") = some true
  nf : ∀ T ∈ ["NoneType", "bool", "int", "str", "tuple", "list"], PySem.W.notFirst K C (.type T) = true
  ne : ∀ f, PySem.W.findIn K (.ref C) "__eq__" = some (some (.ref f)) → ∀ (h : Heap) (x : Addr) (o : Obj), K.In h → h.get? x = some o → o.cls = .ref C → h.OwnEqNoNe x C f "object" [.type "object"]
  ty : ∀ T ∈ ["NoneType", "bool", "int", "str", "tuple", "list", "dict"], PySem.W.kitOne K (.type T) (.ref C) = some false
/-- a dict of the module with text keys -/
def DctE (K : PySem.W.Frag) : List (String × D) → List DictEntry → Prop := Paired fun q e => (∃ t, e.key = .str (sS q.1) t) ∧ ∃ v, RelV v e.val ∧ ∀ r H, VR K r H q.2 v
structure GF (K : PySem.W.Frag) (mg : Str → Option Value) (wd : World) (ck : Arguments → List Stmt → Scope → FDef → Bool) (P : Pg) : Prop where
  cot : ∀ x xs, P.con x = some (.tup xs) → ∃ (a : Addr) (o : Obj), mg (sS x) = some (.ref a) ∧ K.lookup a = some o ∧ o.cls = .type "tuple" ∧ o.dict = none
  dct : ∀ x kvs, P.dct x = some kvs → ∃ (d : Addr) (es : Array DictEntry) (n : Nat), mg (sS x) = some (.ref d) ∧ KDict K wd d es n ∧ DctE K kvs es.toList
  con : ∀ x d, P.con x = some d → ∃ v u, mg (sS x) = some u ∧ RelV v u ∧ ∀ r H, VR K r H d v
  blt : ∀ x ∈ bnames, mg (sS x) = none
  fn : ∀ f fd, P.fn "" f = some fd → ∃ a dt, mg (sS f) = some (.ref a) ∧ FnAt K ck fd a dt
  cls : ∀ k, P.cls k = true → ∃ C, mg (sS k) = some (.ref C) ∧ ClsAt K P k C
  met : ∀ k m fd C, P.cls k = true → P.fn k m = some fd → P.prop k m = false → mg (sS k) = some (.ref C) → ∃ a dt, Meth K C (sS m) a ∧ FnAt K ck fd a dt
  prop : ∀ k m fd C, P.cls k = true → P.fn k m = some fd → P.prop k m = true → mg (sS k) = some (.ref C) → ∃ p a dt, PropOf K C (sS m) p a ∧ FnAt K ck fd a dt
  exn : ∀ k f, P.exn k = some (some f) → ∃ C fI, mg (sS k) = some (.ref C) ∧ ExT K C fI f ∧ FldN f
  exm : ∀ k k' f f' C C', P.exn k = some f → P.exn k' = some f' → mg (sS k) = some (.ref C) → mg (sS k') = some (.ref C') → PySem.W.exmOne K (.ref C) (.ref C') = some (k == k')
  ins : ∀ k k' C C', P.cls k = true → P.cls k' = true → mg (sS k) = some (.ref C) → mg (sS k') = some (.ref C') → PySem.W.kitOne K (.ref C) (.ref C') = some (k == k')
/-- the calls at a level -/
def CallsOk (X : L2.Cx) (ck : Arguments → List Stmt → Scope → FDef → Bool) (P : Pg) (n : Nat) (call : String → String → List D → G → R D) : Prop :=
  ∀ k f fd a dt, P.fn k f = some fd → FnAt X.K ck fd a dt → FnOk X.prog X.w X.K X.mg X.base (L2.CX X.prog X.w) n a dt (fd.ps.map sS) (SpOf X.K X.mg X.w fd.ps.length (call k f))
/-- what the making of a lambda wants -/
def LamOk (X : L2.Cx) : Prop := ∃ c P, X.env.code = .ref c ∧ (c, P, X.env.qual ++ "<lambda>") ∈ tbs X.K ∧ (∀ t ∈ tbs X.K, t.2.1 = P → t.2.2 = X.env.qual ++ "<lambda>") ∧ LamX.TabB X.base X.mg c P
structure XOk (X : L2.Cx) (ck : Arguments → List Stmt → Scope → FDef → Bool) (c : Cx) (N : List String) (sc : Scope) (E : L2.St → XK) : Prop where
  nm : X.N = N.map sS
  nd : X.N.Nodup
  sc : X.env.scope = sc
  calm : X.calm = true
  gf : GF X.K X.mg X.w ck c.P
  lam : (∀ k f d g, c.call1 k f d g = .bad) ∨ LamOk X
  ar0 : ∀ k f ds g, c.call k f ds g ≠ .bad → ∃ fd, c.P.fn k f = some fd ∧ ds.length = fd.ps.length
  ar1 : ∀ k f ds g, c.call1 k f ds g ≠ .bad → ∃ fd, c.P.fn k f = some fd ∧ ds.length = fd.ps.length
  room : ∃ n, Room n X.A ∧ CallsOk X ck c.P n c.call ∧ ((∀ k f d g, c.call1 k f d g = .bad) ∨ ∃ m, m + 1 = n ∧ CallsOk X ck c.P m c.call1)
  pass : ∀ σ, PassesAt (L2.CX X.prog X.w) X σ (E σ)
/-! ## Readings -/
def LE (X : L2.Cx) (E : L2.St → XK) (m : Env → G → R D) : TE := fun σ H Q => ∃ (r : List Addr) (g : G) (e : Env), Rel X.K X.mg X.w r g H ∧ ER X.K r H e σ ∧ Post X.K X.mg X.w (E σ) r H (m e g) Q
def LA (X : L2.Cx) (E : L2.St → XK) (m : Env → G → R (List D)) : TA := fun σ H Q => ∃ (r : List Addr) (g : G) (e : Env), Rel X.K X.mg X.w r g H ∧ ER X.K r H e σ ∧ PostA X.K X.mg X.w (E σ) r H (m e g) Q
/-- a test: its value has to be a bool -/
def LT (X : L2.Cx) (E : L2.St → XK) (m : Env → G → R D) : TT := fun σ H Q => ∃ (r : List Addr) (g : G) (e : Env), Rel X.K X.mg X.w r g H ∧ ER X.K r H e σ ∧ Post X.K X.mg X.w (E σ) r H (m e g) fun v H' => ∃ b, v = .bl b ∧ Q b H'
section
variable {X : L2.Cx} {E : L2.St → XK} {r : List Addr} {H : Hp} {g : G} {Q : VK} {pins : List (Addr × Obj)} {s : Shared} {σ : L2.St} {e : Env}
/-- a part is run, then the rest -/
theorem LE.seq {p : PySem.Expr} {m : Env → G → R D} (ha : PE X p (LE X E m)) (I : Inv X pins σ H s) (R : Rel X.K X.mg X.w r g H) (er : ER X.K r H e σ) {k : D → G → Uk.R D} (hp : Post X.K X.mg X.w (E σ) r H ((m e g).bind k) Q)
    {Qf : Value → Shared → Prop} (next : ∀ (u : Value) (s1 : Shared) (r1 : List Addr) (g1 : G) (H1 : Hp) (d : D) (v : V), Inv X pins σ H1 s1 → Ext r H r1 H1 → Rel X.K X.mg X.w r1 g1 H1 → ER X.K r1 H1 e σ → VR X.K r1 H1 d v → RelV v u → Post X.K X.mg X.w (E σ) r1 H1 (k d g1) Q → Qf u s1) :
    wpAny (model X.prog X.w) X.A (eval p X.env) Qf X.xe s := by
  cases hm : m e g with
  | ok d g1 =>
    rw [hm] at hp
    have hp : Post X.K X.mg X.w (E σ) r H (k d g1) Q := hp
    refine thn (ha.run pins s σ H (fun v H1 => ∃ r1, Ext r H r1 H1 ∧ Rel X.K X.mg X.w r1 g1 H1 ∧ VR X.K r1 H1 d v) I ⟨r, g, e, R, er, ?_⟩) fun u s1 ⟨v, H1, I1, ru, r1, x, R1, q⟩ => ?_
    · rw [hm]
      exact fun r' v H' x R' q => ⟨r', x, R', q⟩
    · exact next u s1 r1 g1 H1 d v I1 x R1 (er.mono x) q ru (hp.ext x)
  | exc y g1 =>
    rw [hm] at hp
    refine thn (ha.run pins s σ H (fun _ _ => False) I ⟨r, g, e, R, er, ?_⟩) fun u s1 ⟨v, H1, I1, ru, z⟩ => z.elim
    rw [hm]
    exact hp
  | bad =>
    rw [hm] at hp
    exact hp.elim
/-- the same where the whole is a list of arguments' values -/
theorem LE.seqA {p : PySem.Expr} {m : Env → G → R D} (ha : PE X p (LE X E m)) (I : Inv X pins σ H s) (R : Rel X.K X.mg X.w r g H) (er : ER X.K r H e σ) {k : D → G → Uk.R (List D)} {Q : List V → Hp → Prop} (hp : PostA X.K X.mg X.w (E σ) r H ((m e g).bind k) Q)
    {Qf : Value → Shared → Prop} (next : ∀ (u : Value) (s1 : Shared) (r1 : List Addr) (g1 : G) (H1 : Hp) (d : D) (v : V), Inv X pins σ H1 s1 → Ext r H r1 H1 → Rel X.K X.mg X.w r1 g1 H1 → ER X.K r1 H1 e σ → VR X.K r1 H1 d v → RelV v u → PostA X.K X.mg X.w (E σ) r1 H1 (k d g1) Q → Qf u s1) :
    wpAny (model X.prog X.w) X.A (eval p X.env) Qf X.xe s := by
  cases hm : m e g with
  | ok d g1 =>
    rw [hm] at hp
    have hp : PostA X.K X.mg X.w (E σ) r H (k d g1) Q := hp
    refine thn (ha.run pins s σ H (fun v H1 => ∃ r1, Ext r H r1 H1 ∧ Rel X.K X.mg X.w r1 g1 H1 ∧ VR X.K r1 H1 d v) I ⟨r, g, e, R, er, ?_⟩) fun u s1 ⟨v, H1, I1, ru, r1, x, R1, q⟩ => ?_
    · rw [hm]
      exact fun r' v H' x R' q => ⟨r', x, R', q⟩
    · refine next u s1 r1 g1 H1 d v I1 x R1 (er.mono x) q ru ?_
      cases hk : k d g1 with
      | ok a b => rw [hk] at hp; exact fun r' v H' y R' q => hp r' v H' (x.trans y) R' q
      | exc a b => rw [hk] at hp; exact fun r' H' c d y R' q => hp r' H' c d (x.trans y) R' q
      | bad => rw [hk] at hp; exact hp
  | exc y g1 =>
    rw [hm] at hp
    refine thn (ha.run pins s σ H (fun _ _ => False) I ⟨r, g, e, R, er, ?_⟩) fun u s1 ⟨v, H1, I1, ru, z⟩ => z.elim
    rw [hm]
    exact hp
  | bad =>
    rw [hm] at hp
    exact hp.elim
/-- arguments are run, then the rest -/
theorem LA.seq {ps : List PySem.Expr} {m : Env → G → R (List D)} (ha : PA X ps (LA X E m)) (pos : Pos) (I : Inv X pins σ H s) (R : Rel X.K X.mg X.w r g H) (er : ER X.K r H e σ) {k : List D → G → Uk.R D} (hp : Post X.K X.mg X.w (E σ) r H ((m e g).bind k) Q)
    {Qf : List Value → Shared → Prop} (next : ∀ (us : List Value) (s1 : Shared) (r1 : List Addr) (g1 : G) (H1 : Hp) (ds : List D) (vs : List V), Inv X pins σ H1 s1 → Ext r H r1 H1 → Rel X.K X.mg X.w r1 g1 H1 → ER X.K r1 H1 e σ → VRs X.K r1 H1 ds vs → Vals vs us → Post X.K X.mg X.w (E σ) r1 H1 (k ds g1) Q → Qf us s1) :
    wpAny (model X.prog X.w) X.A (spliced (backTo pos (starEach ps X.env))) Qf X.xe s := by
  cases hm : m e g with
  | ok d g1 =>
    rw [hm] at hp
    have hp : Post X.K X.mg X.w (E σ) r H (k d g1) Q := hp
    refine thn (ha.run pos pins s σ H (fun v H1 => ∃ r1, Ext r H r1 H1 ∧ Rel X.K X.mg X.w r1 g1 H1 ∧ VRs X.K r1 H1 d v) I ⟨r, g, e, R, er, ?_⟩) fun u s1 ⟨v, H1, I1, ru, r1, x, R1, q⟩ => ?_
    · rw [hm]
      exact fun r' v H' x R' q => ⟨r', x, R', q⟩
    · exact next u s1 r1 g1 H1 d v I1 x R1 (er.mono x) q ru (hp.ext x)
  | exc y g1 =>
    rw [hm] at hp
    refine thn (ha.run pos pins s σ H (fun _ _ => False) I ⟨r, g, e, R, er, ?_⟩) fun u s1 ⟨v, H1, I1, ru, z⟩ => z.elim
    rw [hm]
    exact hp
  | bad =>
    rw [hm] at hp
    exact hp.elim
/-- an end -/
theorem Post.ep {d : D} {v : V} {u : Value} (hp : Post X.K X.mg X.w (E σ) r H (.ok d g) Q) (I : Inv X pins σ H s) (R : Rel X.K X.mg X.w r g H) (q : VR X.K r H d v) (ru : RelV v u) : EP X pins σ Q u s := ⟨v, H, I, ru, hp.here R q⟩
end
end Uk
end
section
set_option Elab.async false
set_option linter.all false
set_option maxRecDepth 100000
set_option autoImplicit false
set_option maxHeartbeats 1000000
namespace Uk
open PySem PySem.Spec PyProof.Rows L2
/-! ## Dicts keyed by ints and texts -/
def keyOf : D → Option Key
  | .int i => some (.inl i)
  | .str s => some (.inr (sS s))
  | _ => none
theorem keyOf_some {d : D} (h : d.keyK = true) : ∃ k, keyOf d = some k := by
  cases d <;> first | exact ⟨_, rfl⟩ | cases h
theorem key_eqv {a b : D} {ka kb : Key} (ha : keyOf a = some ka) (hb : keyOf b = some kb) : D.eqv a b = decide (ka = kb) := by
  cases a with
  | int i =>
    cases ha
    cases b with
    | int j =>
      cases hb
      rw [key_ll]
      simp only [D.eqv]
    | str s =>
      cases hb
      rw [key_lr]
      simp only [D.eqv]
    | _ => cases hb
  | str s =>
    cases ha
    cases b with
    | int j =>
      cases hb
      rw [key_rl]
      simp only [D.eqv]
    | str s' =>
      cases hb
      rw [key_rr]
      simp only [D.eqv]
      by_cases h : s = s'
      · subst h; simp
      · rw [decide_eq_false fun z => h (sS_inj z)]
        simp [h]
    | _ => cases hb
  | _ => cases ha
section
variable {K : PySem.W.Frag} {r : List Addr} {H : Hp}
theorem VR.key {d : D} {k : Key} (h : VR K r H d (kV k)) : keyOf d = some k := by
  cases d with
  | non => have := h.non_inv; cases k <;> cases this
  | bl b => have := h.bl_inv; cases k <;> cases this
  | int i =>
    have := h.int_inv
    cases k with
    | inl j => cases this; rfl
    | inr j => cases this
  | str s =>
    have := h.str_inv
    cases k with
    | inl j => cases this
    | inr j => cases this; rfl
  | tup xs => obtain ⟨_, _, e, _⟩ := h.tup_inv; cases k <;> cases e
  | ref i => obtain ⟨_, _, e⟩ := h.ref_inv; cases k <;> cases e
  | fro xs => obtain ⟨_, _, e, _⟩ := h.fro_inv; cases k <;> cases e
theorem key_val {d : D} {k : Key} {v : V} (hk : keyOf d = some k) (h : VR K r H d v) : v = kV k := by
  cases d with
  | int i => cases hk; exact h.int_inv
  | str s => cases hk; exact h.str_inv
  | _ => cases hk
theorem key_rel {d : D} {k : Key} (hk : keyOf d = some k) : VR K r H d (kV k) := by
  cases d with
  | int i => cases hk; exact .int
  | str s => cases hk; exact .str
  | _ => cases hk
theorem PRs.length {kvs : List (D × D)} {ps : List (Key × V)} (h : PRs K r H kvs ps) : kvs.length = ps.length := Paired.length h
theorem PRs.look {k : D} {kk : Key} (hk : keyOf k = some kk) : ∀ {kvs : List (D × D)} {ps : List (Key × V)}, PRs K r H kvs ps → match lookD k kvs with
    | some d => ∃ v, valV ps kk = some v ∧ VR K r H d v
    | none => valV ps kk = none
  | _, _, .nil => rfl
  | _, _, .cons (a := p) (b := q) h t => by
    have e := key_eqv h.1.key hk
    unfold lookD
    rw [e]
    by_cases h2 : q.1 = kk
    · rw [decide_eq_true h2, if_pos rfl, valV_pos h2]
      exact ⟨_, rfl, h.2⟩
    · rw [decide_eq_false h2, if_neg Bool.false_ne_true, valV_neg h2]
      exact PRs.look hk t
theorem PRs.any {k : D} {kk : Key} (hk : keyOf k = some kk) : ∀ {kvs : List (D × D)} {ps : List (Key × V)}, PRs K r H kvs ps → (kvs.any fun p => D.eqv p.1 k) = ps.any fun kv => decide (kv.1 = kk)
  | _, _, .nil => rfl
  | _, _, .cons (a := p) (b := q) h t => by
    rw [List.any_cons, List.any_cons, key_eqv h.1.key hk, PRs.any hk t]
theorem PRs.repl {k d : D} {kk : Key} {v : V} (hk : keyOf k = some kk) (hd : VR K r H d v) : ∀ {kvs : List (D × D)} {ps : List (Key × V)}, PRs K r H kvs ps → PRs K r H (kvs.map fun p => if D.eqv p.1 k then (p.1, d) else p) (ps.map fun kv => if kv.1 = kk then (kv.1, v) else kv)
  | _, _, .nil => .nil
  | _, _, .cons (a := p) (b := q) h t => by
    rw [List.map_cons, List.map_cons, key_eqv h.1.key hk]
    refine .cons ?_ (PRs.repl hk hd t)
    by_cases h2 : q.1 = kk
    · rw [decide_eq_true h2, if_pos rfl, if_pos h2]
      exact ⟨h.1, hd⟩
    · rw [decide_eq_false h2, if_neg Bool.false_ne_true, if_neg h2]
      exact h
theorem paired_snoc {α β : Type} {F : α → β → Prop} {x : α} {y : β} (h : F x y) : ∀ {l : List α} {m : List β}, Paired F l m → Paired F (l ++ [x]) (m ++ [y])
  | _, _, .nil => .cons h .nil
  | _, _, .cons a t => .cons a (paired_snoc h t)
theorem PRs.put {k d : D} {kk : Key} {v : V} (hk : keyOf k = some kk) (hd : VR K r H d v) {kvs : List (D × D)} {ps : List (Key × V)} (h : PRs K r H kvs ps) : PRs K r H (putD k d kvs) (putK ps kk v) := by
  unfold putD putK
  rw [h.any hk]
  split
  · exact h.repl hk hd
  · exact paired_snoc ⟨key_rel hk, hd⟩ h
end
/-! ### a displayed dict -/
def flatV : List (V × V) → List V
  | [] => []
  | p :: r => p.1 :: p.2 :: flatV r
section
variable {X : L2.Cx} {E : L2.St → XK}
def trsOf (c : Cx) (E : L2.St → XK) (X : L2.Cx) : Ps → List (TE × TE)
  | .n => []
  | .c k v r => (LE X E (ev c k), LE X E (ev c v)) :: trsOf c E X r
/-- a part is run within pairs -/
theorem LE.bindP {σ : L2.St} {m : Env → G → R D} {r : List Addr} {H : Hp} {g : G} {e : Env} (R : Rel X.K X.mg X.w r g H) (er : ER X.K r H e σ) {k : D → G → Uk.R (List D)} {Q : List V → Hp → Prop} {Q' : VK} (hp : PostA X.K X.mg X.w (E σ) r H ((m e g).bind k) Q)
    (next : ∀ (r1 : List Addr) (g1 : G) (H1 : Hp) (d : D) (v : V), Ext r H r1 H1 → Rel X.K X.mg X.w r1 g1 H1 → ER X.K r1 H1 e σ → VR X.K r1 H1 d v → PostA X.K X.mg X.w (E σ) r1 H1 (k d g1) Q → Q' v H1) : LE X E m σ H Q' := by
  refine ⟨r, g, e, R, er, ?_⟩
  cases hm : m e g with
  | ok d g1 =>
    rw [hm] at hp
    have hp : PostA X.K X.mg X.w (E σ) r H (k d g1) Q := hp
    intro r1 v H1 x R1 q
    refine next r1 g1 H1 d v x R1 (er.mono x) q ?_
    cases hk : k d g1 with
    | ok a b => rw [hk] at hp; exact fun r' v H' y R' q => hp r' v H' (x.trans y) R' q
    | exc a b => rw [hk] at hp; exact fun r' H' c d y R' q => hp r' H' c d (x.trans y) R' q
    | bad => rw [hk] at hp; exact hp
  | exc y g1 =>
    rw [hm] at hp
    exact hp
  | bad =>
    rw [hm] at hp
    exact hp.elim
theorem pairs_run {c : Cx} {σ : L2.St} {e : Env} : ∀ (ps : Ps) (r : List Addr) (H : Hp) (g : G) (Q : List V → Hp → Prop), Rel X.K X.mg X.w r g H → ER X.K r H e σ → PostA X.K X.mg X.w (E σ) r H (evP c ps e g) Q → tPairs (trsOf c E X ps) σ H fun prs H' => Q (flatV prs) H'
  | .n, r, H, g, Q, R, er, hp => hp r [] H (.refl _ _) R (VRs.nil_iff.mpr rfl)
  | .c k v rest, r, H, g, Q, R, er, hp => by
    show LE X E (ev c k) σ H fun x H1 => LE X E (ev c v) σ H1 fun y H2 => tPairs (trsOf c E X rest) σ H2 fun ps H3 => Q (flatV ((x, y) :: ps)) H3
    refine LE.bindP R er hp fun r1 g1 H1 d x x1 R1 er1 q1 hp => ?_
    refine LE.bindP R1 er1 hp fun r2 g2 H2 d2 y x2 R2 er2 q2 hp => ?_
    refine pairs_run rest r2 H2 g2 (fun vs H' => Q (x :: y :: vs) H') R2 er2 ?_
    cases hm : evP c rest e g2 with
    | ok ds g3 =>
      rw [hm] at hp
      exact fun r3 vs H3 x3 R3 q3 => hp r3 _ H3 x3 R3 (.cons (VR.mono (x2.trans x3) _ _ q1) (.cons (VR.mono x3 _ _ q2) q3))
    | exc y g3 => rw [hm] at hp; exact hp
    | bad => rw [hm] at hp; exact hp
theorem flat_keys {K : PySem.W.Frag} {r : List Addr} {H : Hp} : ∀ {ds : List D} {prs : List (V × V)}, VRs K r H ds (flatV prs) → keysK ds = true → ∃ kvs : List (Key × V), prs = kvs.map (fun kv => (kV kv.1, kv.2)) ∧ ds.length = 2 * kvs.length ∧
    ∀ {acc : List (D × D)} {ps : List (Key × V)} {out : List (D × D)}, PRs K r H acc ps → mergeD acc ds = some out → PRs K r H out (kvs.foldl (fun acc kv => putK acc kv.1 kv.2) ps)
  | ds, [], h, _ => by
    cases ds with
    | nil => exact ⟨[], rfl, rfl, fun h e => by cases e; exact h⟩
    | cons _ _ => obtain ⟨_, _, e, _⟩ := h.inv; cases e
  | ds, p :: prs, h, hk => by
    match ds, h, hk with
    | [], h, _ => have := VRs.nil_iff.mp h; cases this
    | [_], h, _ =>
      obtain ⟨_, _, e, _, h2⟩ := h.inv
      have e : p.1 :: p.2 :: flatV prs = _ := e
      rw [VRs.nil_iff.mp h2] at e
      cases e
    | k :: d :: ds, h, hk =>
      obtain ⟨_, _, e, h1, h2⟩ := h.inv
      obtain ⟨_, _, e2, h3, h4⟩ := h2.inv
      subst e2
      have e : p.1 :: p.2 :: flatV prs = _ := e
      injection e with e1 e
      injection e with e2 e3
      subst e3
      rw [← e1] at h1
      rw [← e2] at h3
      have hk : (k.keyK && keysK ds) = true := hk
      rw [Bool.and_eq_true] at hk
      obtain ⟨kk, hkk⟩ := keyOf_some hk.1
      obtain ⟨kvs, q1, q2, q3⟩ := flat_keys h4 hk.2
      refine ⟨(kk, p.2) :: kvs, ?_, by simp [q2]; omega, ?_⟩
      · rw [q1, List.map_cons, ← key_val hkk h1]
      · intro acc ps out ha he
        have he : mergeD (putD k d acc) ds = some out := he
        exact q3 (ha.put hkk h3) he
theorem trs_mono {c : Cx} : ∀ (ps : Ps), ∀ t ∈ trsOf c E X ps, ∀ σ H (Q Q' : VK), (∀ v H, Q v H → Q' v H) → (t.1 σ H Q → t.1 σ H Q') ∧ (t.2 σ H Q → t.2 σ H Q')
  | .n, t, ht => by cases ht
  | .c k v r, t, ht => by
    rcases List.mem_cons.mp ht with h | h
    · subst h
      exact fun σ H Q Q' k => ⟨fun ⟨r, g, e, R, er, q⟩ => ⟨r, g, e, R, er, q.mono (.refl _ _) k⟩, fun ⟨r, g, e, R, er, q⟩ => ⟨r, g, e, R, er, q.mono (.refl _ _) k⟩⟩
    · exact trs_mono r t h
/-- {k: v, ..} -/
theorem pe_dspD {c : Cx} {ps : Ps} {keys : List (Option PySem.Expr)} {values : List PySem.Expr} {pos : Pos} (h : PPs X pos keys values (trsOf c E X ps)) (hall : keys.all (·.isSome) = true) (hl : keys.length = values.length) (h0 : keys ≠ []) (h15 : keys.length ≤ 15) :
    PE X (.Dict keys values pos) (LE X E (ev c (.dsp false ps))) := by
  refine ⟨fun pins s σ H Q I ⟨r, g, e, R, er, hp⟩ => (pe_disp h hall hl h0 h15).run pins s σ H Q I fun p hn => ?_⟩
  have hp : Post X.K X.mg X.w (E σ) r H ((evP c ps e (g ++ [.dK []])).bind fun ds g' => mkD false g.length ds g') Q := hp
  have R1 : Rel X.K X.mg X.w (r ++ [p]) (g ++ [.dK []]) (upd H p (.dK [])) := R.new hn ⟨[], upd_same, .nil⟩
  have x1 : Ext r H (r ++ [p]) (upd H p (.dK [])) := .newR hn
  have ep : (r ++ [p])[g.length]? = some p := by rw [← R.len]; exact get_last
  let Qp : List V → Hp → Prop := fun vs H2 => ∀ prs, vs = flatV prs → H2 p = some (.dK []) ∧ ∃ kvs : List (Key × V), prs = kvs.map (fun kv => (kV kv.1, kv.2)) ∧ kvs.length ≤ 15 ∧ Q (.ref p) (upd H2 p (.dK (mergeK [] kvs)))
  have hA : PostA X.K X.mg X.w (E σ) (r ++ [p]) (upd H p (.dK [])) (evP c ps e (g ++ [.dK []])) Qp := by
    cases hm : evP c ps e (g ++ [.dK []]) with
    | bad => rw [hm] at hp; exact hp.elim
    | exc y g2 =>
      rw [hm] at hp
      exact fun r' H' c d y R' q => hp r' H' c d (x1.trans y) R' q
    | ok ds g2 =>
      rw [hm] at hp
      have hp : Post X.K X.mg X.w (E σ) r H (mkD false g.length ds g2) Q := hp
      intro r2 vs H2 x2 R2 q2 prs ev
      subst ev
      unfold mkD at hp
      cases ho : g2[g.length]? with
      | none => rw [ho] at hp; exact hp.elim
      | some o =>
        rw [ho] at hp
        cases o with
        | dK kvs0 =>
          cases kvs0 with
          | cons _ _ => exact hp.elim
          | nil =>
            dsimp only at hp
            split at hp
            · rename_i hk
              have ep2 : r2[g.length]? = some p := x2.get ep
              obtain ⟨ps0, h1, h2⟩ := R2.at_ g.length p _ ep2 ho
              cases h2
              obtain ⟨kvs, q3, q4, q5⟩ := flat_keys q2 hk.1
              refine ⟨h1, kvs, q3, by omega, ?_⟩
              cases hme : mergeD [] ds with
              | none => rw [hme] at hp; exact hp.elim
              | some out =>
                rw [hme] at hp
                have hp : Post X.K X.mg X.w (E σ) r H (.ok (.ref g.length) (g2.set g.length (.dK out))) Q := hp
                have x3 : Ext r2 H2 r2 (upd H2 p (.dK (mergeK [] kvs))) := .put h1 trivial
                refine hp r2 _ _ ((x1.trans x2).trans x3) ?_ (.ref ep2)
                exact R2.put ep2 h1 trivial ⟨_, upd_same, (q5 .nil hme).mono x3⟩
            · exact hp.elim
        | _ => exact hp.elim
  have fin := pairs_run ps _ _ _ Qp R1 (er.mono x1) hA
  have mono : ∀ (trs : List (TE × TE)) (σ : L2.St) (H : Hp) (A B : List (V × V) → Hp → Prop), (∀ a b, A a b → B a b) → (∀ t ∈ trs, ∀ σ H (Q Q' : VK), (∀ v H, Q v H → Q' v H) → (t.1 σ H Q → t.1 σ H Q') ∧ (t.2 σ H Q → t.2 σ H Q')) → tPairs trs σ H A → tPairs trs σ H B := by
    intro trs
    induction trs with
    | nil => intro σ H A B k _ h; exact k _ _ h
    | cons t trs ih =>
      intro σ H A B k m h
      refine (m t List.mem_cons_self σ H _ _ fun v H1 q => ?_).1 h
      refine (m t List.mem_cons_self σ H1 _ _ fun v H2 q => ?_).2 q
      exact ih σ H2 _ _ (fun a b q => k _ _ q) (fun t ht => m t (List.mem_cons_of_mem _ ht)) q
  exact mono _ _ _ _ _ (fun prs H2 q => q prs rfl) (trs_mono ps) fin
/-! ### reading and writing -/
theorem dget_ok {r : List Addr} {g : G} {H : Hp} {a : Addr} {kvs : List (D × D)} {k d : D} {kk : Key} (hk : keyOf k = some kk) (h : OR X.K X.mg X.w r H a (.dK kvs)) (hl : lookD k kvs = some d) : ∃ v, DGet H a (kV kk) (some v) ∧ VR X.K r H d v := by
  obtain ⟨ps, h1, h2⟩ := h
  have := h2.look hk
  rw [hl] at this
  obtain ⟨v, e, q⟩ := this
  exact ⟨v, by rw [← e]; exact DGet.k h1, q⟩
theorem din_ok {r : List Addr} {H : Hp} {a : Addr} {kvs : List (D × D)} {k : D} {kk : Key} (hk : keyOf k = some kk) (h : OR X.K X.mg X.w r H a (.dK kvs)) : ∃ o, DGet H a (kV kk) o ∧ o.isSome = (lookD k kvs).isSome := by
  obtain ⟨ps, h1, h2⟩ := h
  refine ⟨_, DGet.k h1, ?_⟩
  have := h2.look hk
  cases hl : lookD k kvs with
  | none => rw [hl] at this; rw [this]; rfl
  | some d => rw [hl] at this; obtain ⟨v, e, _⟩ := this; rw [e]; rfl
end
end Uk
end
section
set_option Elab.async false
set_option linter.all false
set_option maxRecDepth 100000
set_option autoImplicit false
set_option maxHeartbeats 1000000
namespace Uk
open PySem PySem.Spec PyProof.Rows L2
/-! ## Dicts keyed by tuples -/
mutual
theorem nk_depth : ∀ d : D, (nk d).depth ≤ d.dep
  | .non => Nat.zero_le _
  | .bl _ => Nat.zero_le _
  | .int _ => Nat.zero_le _
  | .str _ => Nat.zero_le _
  | .ref _ => Nat.zero_le _
  | .fro _ => Nat.zero_le _
  | .tup xs => by
    show NestedKey.depthAll (nks xs) + 1 ≤ D.deps xs + 1
    exact Nat.succ_le_succ (nks_depth xs)
theorem nks_depth : ∀ ds : List D, NestedKey.depthAll (nks ds) ≤ D.deps ds
  | [] => Nat.zero_le _
  | x :: xs => by
    show max (nk x).depth (NestedKey.depthAll (nks xs)) ≤ max x.dep (D.deps xs)
    have a := nk_depth x
    have b := nks_depth xs
    omega
end
theorem deps_cons {x : D} {xs : List D} {n : Nat} (h : D.deps (x :: xs) < n) : x.dep < n ∧ D.deps xs < n := by
  have : D.deps (x :: xs) = max x.dep (D.deps xs) := rfl
  omega
theorem deps_tup {xs : List D} {n : Nat} (h : (D.tup xs).dep < n) : D.deps xs < n := by
  have : (D.tup xs).dep = D.deps xs + 1 := rfl
  omega
theorem nk_bl (a : Bool) (j : Int) : NestedKey.beq (.num (if a = true then 1 else 0)) (.num j) = ((if a then 1 else 0 : Int) == j) := by
  show decide _ = _
  cases a <;> (simp; rfl)
mutual
theorem nk_eqv : ∀ (a b : D), a.dep < 1000 → b.dep < 1000 → NestedKey.beq (nk a) (nk b) = D.eqv a b
  | .non, b, _, hb => by
    cases b <;> first
      | (simp [nk, NestedKey.beq, D.eqv]; done)
      | exact absurd hb (Nat.lt_irrefl _)
  | .bl x, b, _, hb => by
    cases b with
    | bl y => cases x <;> cases y <;> rfl
    | int j => cases x <;> (simp [nk, NestedKey.beq, D.eqv] <;> rfl)
    | ref _ => exact absurd hb (Nat.lt_irrefl _)
    | fro _ => exact absurd hb (Nat.lt_irrefl _)
    | _ => simp [nk, NestedKey.beq, D.eqv]
  | .int i, b, _, hb => by
    cases b with
    | bl y => cases y <;> (simp [nk, NestedKey.beq, D.eqv] <;> rfl)
    | int j => simp [nk, NestedKey.beq, D.eqv] <;> rfl
    | ref _ => exact absurd hb (Nat.lt_irrefl _)
    | fro _ => exact absurd hb (Nat.lt_irrefl _)
    | _ => simp [nk, NestedKey.beq, D.eqv]
  | .str s, b, _, hb => by
    cases b with
    | str t =>
      show decide (sS s = sS t) = (s == t)
      by_cases e : s = t
      · subst e; simp
      · rw [decide_eq_false fun z => e (sS_inj z)]; simp [e]
    | ref _ => exact absurd hb (Nat.lt_irrefl _)
    | fro _ => exact absurd hb (Nat.lt_irrefl _)
    | _ => simp [nk, NestedKey.beq, D.eqv]
  | .tup xs, b, ha, hb => by
    cases b with
    | tup ys =>
      show NestedKey.beqAll (nks xs) (nks ys) = D.eqvs xs ys
      exact nks_eqv xs ys (deps_tup ha) (deps_tup hb)
    | ref _ => exact absurd hb (Nat.lt_irrefl _)
    | fro _ => exact absurd hb (Nat.lt_irrefl _)
    | _ => simp [nk, NestedKey.beq, D.eqv]
  | .ref _, _, ha, _ => absurd ha (Nat.lt_irrefl _)
  | .fro _, _, ha, _ => absurd ha (Nat.lt_irrefl _)
theorem nks_eqv : ∀ (xs ys : List D), D.deps xs < 1000 → D.deps ys < 1000 → NestedKey.beqAll (nks xs) (nks ys) = D.eqvs xs ys
  | [], [], _, _ => by simp [nks, NestedKey.beqAll, D.eqvs]
  | [], _ :: _, _, _ => by simp [nks, NestedKey.beqAll, D.eqvs]
  | _ :: _, [], _, _ => by simp [nks, NestedKey.beqAll, D.eqvs]
  | x :: xs, y :: ys, h1, h2 => by
    show (NestedKey.beq (nk x) (nk y) && NestedKey.beqAll (nks xs) (nks ys)) = (D.eqv x y && D.eqvs xs ys)
    rw [nk_eqv x y (deps_cons h1).1 (deps_cons h2).1, nks_eqv xs ys (deps_cons h1).2 (deps_cons h2).2]
end
theorem keyT_tup {d : D} (h : d.keyT = true) : ∃ xs, d = .tup xs ∧ d.dep ≤ 8 := by
  cases d with
  | tup xs => exact ⟨xs, rfl, of_decide_eq_true h⟩
  | _ => cases h
theorem keyT_eqv {a b : D} (ha : a.keyT = true) (hb : b.keyT = true) : D.eqv a b = decide (nk a = nk b) := by
  obtain ⟨_, _, h1⟩ := keyT_tup ha
  obtain ⟨_, _, h2⟩ := keyT_tup hb
  rw [NestedKey.decide_eq, nk_eqv a b (by omega) (by omega)]
section
variable {X : L2.Cx} {pins : List (Addr × Obj)} {s : Shared} {σ : L2.St} {r : List Addr} {H : Hp}
mutual
theorem VR.nested (I : Inv X pins σ H s) : ∀ (d : D) (v : V) (u : Value), d.dep < 1000 → VR X.K r H d v → RelV v u → NestedIs s.heap (nk d) u
  | .non, v, u, _, h, q => by cases h.non_inv; cases q; exact .none
  | .bl b, v, u, _, h, q => by cases h.bl_inv; cases q; exact .bool rfl
  | .int i, v, u, _, h, q => by cases h.int_inv; obtain ⟨t, rfl⟩ := q; exact .int _ _
  | .str x, v, u, _, h, q => by cases h.str_inv; obtain ⟨t, rfl⟩ := q; exact .text _ _
  | .ref _, _, _, hd, _, _ => absurd hd (Nat.lt_irrefl _)
  | .fro _, _, _, hd, _, _ => absurd hd (Nat.lt_irrefl _)
  | .tup xs, v, u, hd, h, q => by
    obtain ⟨a, vs, rfl, h1, h2⟩ := h.tup_inv
    obtain rfl : u = Value.ref a := q
    obtain ⟨its, rv, ⟨o, e1, e2, n, e3⟩, _⟩ := I.tuple h1
    exact .tup e1 e2 e3 (by simpa using VRs.nested I xs vs its (deps_tup hd) h2 rv)
theorem VRs.nested (I : Inv X pins σ H s) : ∀ (ds : List D) (vs : List V) (us : List Value), D.deps ds < 1000 → VRs X.K r H ds vs → Vals vs us → NestedAll s.heap (nks ds) us
  | [], vs, us, _, h, q => by
    cases VRs.nil_iff.mp h
    cases q
    exact .nil
  | d :: ds, vs, us, hd, h, q => by
    obtain ⟨v, w, rfl, h1, h2⟩ := h.inv
    cases q with
    | cons q1 q2 => exact .cons (VR.nested I d v _ (deps_cons hd).1 h1 q1) (VRs.nested I ds w _ (deps_cons hd).2 h2 q2)
end
theorem VR.keyIs (I : Inv X pins σ H s) {d : D} {a : Addr} (hk : d.keyT = true) (h : VR X.K r H d (.ref a)) : (nestedKind X.prog X.w).is s.heap (nk d) a := by
  obtain ⟨_, _, h1⟩ := keyT_tup hk
  exact ⟨VR.nested I d _ _ (by omega) h rfl, Nat.le_trans (nk_depth d) h1⟩
/-- the dict at a, by its pairs: as an object of ours, locked or not -/
def DO (X : L2.Cx) (r : List Addr) (H : Hp) (a : Addr) (kvs : List (D × D)) : Prop := ∃ xs, (H a = some (dtO X.w a xs) ∨ ∃ o, H a = some (.frz o (dtO X.w a xs))) ∧ DPTs X.K r H kvs xs
theorem DO.of {g : G} {a : Addr} {o : O} {kvs : List (D × D)} (h : OR X.K X.mg X.w r H a o) (e : o.dct = some kvs) : DO X r H a kvs := by
  cases o with
  | dT k =>
    cases e
    obtain ⟨xs, h1, h2⟩ := h
    exact ⟨xs, .inl h1, h2⟩
  | lk k =>
    cases e
    obtain ⟨o, xs, h1, h2⟩ := h
    exact ⟨xs, .inr ⟨o, h1⟩, h2⟩
  | _ => cases e
/-- pairs beside entries -/
abbrev DPt (K : PySem.W.Frag) (r : List Addr) (H : Hp) : (D × D) → (NestedKey × Addr × Value) → Prop := fun p q => p.1.keyT = true ∧ q.1 = nk p.1 ∧ VR K r H p.1 (.ref q.2.1) ∧ ∃ v, VR K r H p.2 v ∧ RelV v q.2.2
theorem paired_trans {α β γ : Type} {F : α → β → Prop} {G' : β → γ → Prop} {F2 : α → γ → Prop} (h : ∀ a b c, F a b → G' b c → F2 a c) : ∀ {l : List α} {m : List β} {n : List γ}, Paired F l m → Paired G' m n → Paired F2 l n
  | _, _, _, .nil, .nil => .nil
  | _, _, _, .cons a t, .cons b u => .cons (h _ _ _ a b) (paired_trans h t u)
theorem paired_map_eq {α β γ : Type} {F : α → β → Prop} {f : α → γ} {g : β → γ} (h : ∀ a b, F a b → f a = g b) : ∀ {l : List α} {m : List β}, Paired F l m → l.map f = m.map g
  | _, _, .nil => rfl
  | _, _, .cons a t => by rw [List.map_cons, List.map_cons, h _ _ a, paired_map_eq h t]
theorem paired_memR {α β : Type} {F : α → β → Prop} : ∀ {l : List α} {m : List β}, Paired F l m → ∀ y ∈ m, ∃ x ∈ l, F x y
  | _, _, .nil, _, h => by cases h
  | _, _, .cons (a := x) (b := y) a t, z, h => by
    rcases List.mem_cons.mp h with e | h
    · subst e
      exact ⟨_, List.mem_cons_self, a⟩
    · obtain ⟨w, hw, q⟩ := paired_memR t z h
      exact ⟨w, List.mem_cons_of_mem _ hw, q⟩
abbrev relXY (p : NestedKey × Addr × V) (q : NestedKey × Addr × Value) : Prop := p.1 = q.1 ∧ p.2.1 = q.2.1 ∧ RelV p.2.2 q.2.2
structure DEnt (X : L2.Cx) (r : List Addr) (H : Hp) (h : Heap) (a : Addr) (kvs : List (D × D)) (xs : List (NestedKey × Addr × V)) (ys : List (NestedKey × Addr × Value)) : Prop where
  sys : (a == sysModules) = false
  len : xs.length ≤ sizeLine
  pts : DPTs X.K r H kvs xs
  rel : Paired relXY xs ys
  pt : Paired (DPt X.K r H) kvs ys
  dict : h.DictOfH (nestedKind X.prog X.w) a ys
theorem DO.ent (I : Inv X pins σ H s) {a : Addr} {kvs : List (D × D)} (h : DO X r H a kvs) : ∃ xs ys, (H a = some (dtO X.w a xs) ∨ ∃ o, H a = some (.frz o (dtO X.w a xs))) ∧ DEnt X r H s.heap a kvs xs ys := by
  obtain ⟨xs, h0, pts⟩ := h
  have ok : ObjOk X.prog X.w H s.heap a (dtO X.w a xs) := by
    rcases h0 with h0 | ⟨o, h0⟩
    · exact I.hok a _ h0
    · exact (I.hok a _ h0).2
  obtain ⟨⟨hs, hl, hn, ys, hp, o, es, ep, e1, e2, e3, e4⟩, _⟩ := ok
  have pt : Paired (DPt X.K r H) kvs ys := paired_trans (fun p x y f g => ⟨f.1, g.1.symm.trans f.2.1, by rw [← g.2.1]; exact f.2.2.1, x.2.2, f.2.2.2, g.2.2⟩) pts hp
  refine ⟨xs, ys, h0, hs, hl, pts, hp, pt, o, es, ep, e1, e2, e3, e4, fun y hy => ?_, ?_⟩
  · obtain ⟨p, _, q⟩ := paired_memR pt y hy
    rw [q.2.1]
    exact VR.keyIs I q.1 q.2.2.1
  · rw [← paired_map_eq (f := (·.1)) (g := (·.1)) (fun _ _ q => q.1) hp]
    exact hn
theorem at_cons (y : NestedKey × Addr × Value) (ys : List (NestedKey × Addr × Value)) (k : NestedKey) : atKey (y :: ys) k = if y.1 = k then some y.2 else atKey ys k := by
  unfold atKey
  by_cases h : y.1 = k
  · simp [List.find?_cons, h]
  · simp [List.find?_cons, h]
theorem DPt.look {k : D} (hk : k.keyT = true) : ∀ {kvs : List (D × D)} {ys : List (NestedKey × Addr × Value)}, Paired (DPt X.K r H) kvs ys → match lookD k kvs with
    | some d => ∃ p v, atKey ys (nk k) = some p ∧ VR X.K r H d v ∧ RelV v p.2
    | none => atKey ys (nk k) = none
  | _, _, .nil => rfl
  | _, _, .cons (a := p) (b := q) h t => by
    have e := keyT_eqv h.1 hk
    unfold lookD
    rw [e, at_cons, h.2.1]
    by_cases h2 : nk p.1 = nk k
    · rw [decide_eq_true h2, if_pos rfl, if_pos h2]
      obtain ⟨v, q1, q2⟩ := h.2.2.2
      exact ⟨_, v, rfl, q1, q2⟩
    · rw [decide_eq_false h2, if_neg Bool.false_ne_true, if_neg h2]
      exact DPt.look hk t
theorem DPt.isSome {k : D} (hk : k.keyT = true) {kvs : List (D × D)} {ys : List (NestedKey × Addr × Value)} (h : Paired (DPt X.K r H) kvs ys) : (atKey ys (nk k)).isSome = (lookD k kvs).isSome := by
  have := DPt.look hk h
  cases e : lookD k kvs with
  | none => rw [e] at this; rw [this]; rfl
  | some d => rw [e] at this; obtain ⟨p, v, h1, _⟩ := this; rw [h1]; rfl
theorem room_n {A : Around} (hu : A.units + 200 < cLine) : (nestedKind X.prog X.w).room A := by
  show A.units + 8 < cLine
  omega
theorem room_n1 {A : Around} (hu : A.units + 200 < cLine) : (nestedKind X.prog X.w).room A.in1 := by
  show A.in1.units + 8 < cLine
  rw [Around.in1_units]
  omega
/-- d[k] -/
theorem t_get {A : Around} {E : Value → Shared → Prop} {Q : Value → Shared → Prop} {a b : Addr} {kvs : List (D × D)} {k d : D} (hu : A.units + 200 < cLine) (I : Inv X pins σ H s) (h : DO X r H a kvs) (hk : k.keyT = true) (hb : VR X.K r H k (.ref b)) (hl : lookD k kvs = some d)
    (q : ∀ v u s', Inv X pins σ H s' → VR X.K r H d v → RelV v u → Q u s') : s.TypeIs (.ref a) "dict" ∧ wpAny (model X.prog X.w) A (getItem (.ref a) (.ref b)) Q E s := by
  obtain ⟨xs, ys, _, D⟩ := h.ent I
  have lk := DPt.look hk D.pt
  rw [hl] at lk
  obtain ⟨p, v, e1, e2, e3⟩ := lk
  exact ⟨D.dict.typeIs, wpAny_getItem_heap (room_n1 hu) (VR.keyIs I hk hb) D.dict e1 (q v _ _ (I.tok _) e2 e3)⟩
/-- k in d -/
theorem t_in {A : Around} {E : Value → Shared → Prop} {Q : Value → Shared → Prop} {a b : Addr} {kvs : List (D × D)} {k : D} (hu : A.units + 200 < cLine) (I : Inv X pins σ H s) (h : DO X r H a kvs) (hk : k.keyT = true) (hb : VR X.K r H k (.ref b))
    (q : ∀ s', Inv X pins σ H s' → Q (.bool (lookD k kvs).isSome) s') : wpAny (model X.prog X.w) A (compareOp .In (.ref b) (.ref a)) Q E s := by
  obtain ⟨xs, ys, _, D⟩ := h.ent I
  refine wpAny_in_heap (room_n1 hu) (VR.keyIs I hk hb) D.sys D.dict ?_
  rw [DPt.isSome hk D.pt]
  exact q _ (I.tok _)
theorem t_nin {A : Around} {E : Value → Shared → Prop} {Q : Value → Shared → Prop} {a b : Addr} {kvs : List (D × D)} {k : D} (hu : A.units + 200 < cLine) (I : Inv X pins σ H s) (h : DO X r H a kvs) (hk : k.keyT = true) (hb : VR X.K r H k (.ref b))
    (q : ∀ s', Inv X pins σ H s' → Q (.bool (!(lookD k kvs).isSome)) s') : wpAny (model X.prog X.w) A (compareOp .NotIn (.ref b) (.ref a)) Q E s := by
  obtain ⟨xs, ys, _, D⟩ := h.ent I
  refine wpAny_notIn_heap (room_n1 hu) (VR.keyIs I hk hb) D.sys D.dict ?_
  rw [DPt.isSome hk D.pt]
  exact q _ (I.tok _)
/-- len(d) -/
theorem t_len {A : Around} {E : Value → Shared → Prop} {Q : Value → Shared → Prop} {a : Addr} {kvs : List (D × D)} (I : Inv X pins σ H s) (h : DO X r H a kvs) (q : ∀ t s', Inv X pins σ H s' → Q (.int kvs.length t) s') :
    wpAny (model X.prog X.w) A (PySem.call (.builtin "len") [.ref a]) Q E s := by
  obtain ⟨xs, ys, _, D⟩ := h.ent I
  have e1 : kvs.length = ys.length := Paired.length D.pt
  have e2 : xs.length = ys.length := Paired.length D.rel
  refine call_len_dictH D.sys D.dict (by have := D.len; rw [sizeLine_eq] at this; omega) ?_
  rw [← e1]
  exact q _ _ (I.tok _)
/-! ### writing -/
def stV (xs : List (NestedKey × Addr × V)) (k : NestedKey) (b : Addr) (v : V) : List (NestedKey × Addr × V) := if xs.any fun x => decide (x.1 = k) then xs.map (fun x => if x.1 = k then (x.1, x.2.1, v) else x) else xs ++ [(k, b, v)]
theorem at_any (k : NestedKey) : ∀ {xs : List (NestedKey × Addr × V)} {ys : List (NestedKey × Addr × Value)}, Paired relXY xs ys → (atKey ys k).isSome = xs.any fun x => decide (x.1 = k)
  | _, _, .nil => rfl
  | _, _, .cons (a := x) (b := y) h t => by
    rw [at_cons, List.any_cons, h.1]
    by_cases e : y.1 = k
    · rw [if_pos e, decide_eq_true e]; rfl
    · rw [if_neg e, decide_eq_false e, at_any k t]; rfl
theorem st_map {k : NestedKey} {v : V} {u : Value} (rv : RelV v u) : ∀ {xs : List (NestedKey × Addr × V)} {ys : List (NestedKey × Addr × Value)}, Paired relXY xs ys → Paired relXY (xs.map (fun x => if x.1 = k then (x.1, x.2.1, v) else x)) (ys.map (putAt k u))
  | _, _, .nil => .nil
  | _, _, .cons q t => by
    rw [List.map_cons, List.map_cons]
    refine .cons ?_ (st_map rv t)
    unfold putAt
    rw [q.1]
    split
    · exact ⟨rfl, q.2.1, rv⟩
    · exact q
theorem st_rel {k : NestedKey} {b : Addr} {v : V} {u : Value} (rv : RelV v u) {xs : List (NestedKey × Addr × V)} {ys : List (NestedKey × Addr × Value)} (h : Paired relXY xs ys) : Paired relXY (stV xs k b v) (storedH ys k b u) := by
  unfold stV storedH
  rw [at_any k h]
  split
  · exact st_map rv h
  · exact paired_snoc ⟨rfl, rfl, rv⟩ h
theorem DPTs.any {k : D} (hk : k.keyT = true) : ∀ {kvs : List (D × D)} {xs : List (NestedKey × Addr × V)}, DPTs X.K r H kvs xs → (kvs.any fun p => D.eqv p.1 k) = xs.any fun x => decide (x.1 = nk k)
  | _, _, .nil => rfl
  | _, _, .cons h t => by rw [List.any_cons, List.any_cons, keyT_eqv h.1 hk, h.2.1, DPTs.any hk t]
theorem DPTs.putM {k d : D} {v : V} (hk : k.keyT = true) (hd : VR X.K r H d v) : ∀ {kvs : List (D × D)} {xs : List (NestedKey × Addr × V)}, DPTs X.K r H kvs xs → DPTs X.K r H (kvs.map fun p => if D.eqv p.1 k then (p.1, d) else p) (xs.map (fun x => if x.1 = nk k then (x.1, x.2.1, v) else x))
  | _, _, .nil => .nil
  | _, _, .cons q t => by
    rw [List.map_cons, List.map_cons]
    refine .cons ?_ (DPTs.putM hk hd t)
    rw [keyT_eqv q.1 hk, q.2.1]
    split
    · rename_i e
      rw [if_pos (of_decide_eq_true e)]
      exact ⟨q.1, rfl, q.2.2.1, hd⟩
    · rename_i e
      rw [if_neg fun z => e (decide_eq_true z)]
      exact q
theorem DPTs.put {k d : D} {b : Addr} {v : V} (hk : k.keyT = true) (hb : VR X.K r H k (.ref b)) (hd : VR X.K r H d v) {kvs : List (D × D)} {xs : List (NestedKey × Addr × V)} (h : DPTs X.K r H kvs xs) : DPTs X.K r H (putD k d kvs) (stV xs (nk k) b v) := by
  unfold putD stV
  rw [DPTs.any hk h]
  split
  · exact DPTs.putM hk hd h
  · exact paired_snoc ⟨hk, rfl, hb, hd⟩ h
theorem length_stV (xs : List (NestedKey × Addr × V)) (k : NestedKey) (b : Addr) (v : V) : (stV xs k b v).length ≤ xs.length + 1 := by
  unfold stV
  split
  · rw [List.length_map]; omega
  · simp
theorem dt_new {H' : Hp} {h' : Heap} {a : Addr} {xs : List (NestedKey × Addr × V)} {ys : List (NestedKey × Addr × Value)} (hs : (a == sysModules) = false) (hl : xs.length ≤ sizeLine) (rel : Paired relXY xs ys) (dd : h'.DictOfH (nestedKind X.prog X.w) a ys) : ObjOk X.prog X.w H' h' a (dtO X.w a xs) := by
  obtain ⟨o, es, ep, e1, e2, e3, e4, _, e6⟩ := dd
  refine ⟨⟨hs, hl, ?_, ys, rel, o, es, ep, e1, e2, e3, e4⟩, ⟨o, e1⟩, fun h1 h2 ⟨q1, q2, q3, zs, q4, o', es', ep', q5, q6⟩ k => ⟨q1, q2, q3, zs, q4, o', es', ep', k _ q5, q6⟩⟩
  rw [paired_map_eq (f := (·.1)) (g := (·.1)) (fun _ _ q => q.1) rel]
  exact e6
/-- a dict's object is replaced -/
theorem t_put {h' : Heap} {t' : Nat} {a : Addr} {xs xs' : List (NestedKey × Addr × V)} {ys : List (NestedKey × Addr × Value)} (I : Inv X pins σ H s) (h0 : H a = some (dtO X.w a xs)) (hs : (a == sysModules) = false) (hl : xs'.length ≤ sizeLine) (rel : Paired relXY xs' ys) (dd : h'.DictOfH (nestedKind X.prog X.w) a ys) (sb : Heap.SameBut a s.heap h') :
    Inv X pins σ (upd H a (dtO X.w a xs')) { s with heap := h', toks := t' } := by
  have he : ∃ q, h'.get? a = some q := let ⟨q, _, _, hq, _⟩ := dd; ⟨q, hq⟩
  exact d_write I (by rw [h0]; exact True.intro) sb he (dt_new hs hl rel dd)
/-- d[k] = v -/
theorem t_set {A : Around} {E : Value → Shared → Prop} {Q : Unit → Shared → Prop} {g : G} {a b : Addr} {i : Nat} {kvs : List (D × D)} {k d : D} {v : V} {u : Value} (hu : A.units + 200 < cLine) (I : Inv X pins σ H s) (R : Rel X.K X.mg X.w r g H) (hi : r[i]? = some a) (hg : g[i]? = some (.dT kvs)) (hz : kvs.length < sizeLine) (hk : k.keyT = true) (hb : VR X.K r H k (.ref b)) (hd : VR X.K r H d v) (rv : RelV v u)
    (q : ∀ H' s', Inv X pins σ H' s' → Ext r H r H' → Rel X.K X.mg X.w r (g.set i (.dT (putD k d kvs))) H' → Q () s') : wpAny (model X.prog X.w) A (setItem (.ref a) (.ref b) u) Q E s := by
  have oo : OR X.K X.mg X.w r H a (.dT kvs) := R.at_ i a _ hi hg
  obtain ⟨xs, ys, h0, D⟩ := (DO.of (g := g) oo rfl).ent I
  have h0 : H a = some (dtO X.w a xs) := by
    rcases h0 with h0 | ⟨o, h0⟩
    · exact h0
    · obtain ⟨xs2, h2, _⟩ := oo
      rw [h0] at h2
      cases h2
  have e1 : kvs.length = ys.length := Paired.length D.pt
  have e2 : xs.length = ys.length := Paired.length D.rel
  refine wpAny_setItem_heap (hsz := by omega) (room_n1 hu) (VR.keyIs I hk hb) D.dict fun h' dd sb => ?_
  have x : Ext r H r (upd H a (dtO X.w a (stV xs (nk k) b v))) := .put h0 trivial
  refine q (upd H a (dtO X.w a (stV xs (nk k) b v))) _ (t_put I h0 D.sys (by have := length_stV xs (nk k) b v; omega) (st_rel rv D.rel) dd sb) x ?_
  exact R.put hi h0 trivial ⟨_, upd_same, (DPTs.put hk hb hd D.pts).mono x⟩
/-- d.setdefault(k, v) -/
theorem t_sd {A : Around} {E : Value → Shared → Prop} {Q : Value → Shared → Prop} {g : G} {a b : Addr} {i : Nat} {kvs : List (D × D)} {k d : D} {v : V} {u : Value} (hu : A.units + 200 < cLine) (I : Inv X pins σ H s) (R : Rel X.K X.mg X.w r g H) (hi : r[i]? = some a) (hg : g[i]? = some (.dT kvs)) (hz : kvs.length < sizeLine) (hk : k.keyT = true) (hb : VR X.K r H k (.ref b)) (hd : VR X.K r H d v) (rv : RelV v u)
    (q1 : ∀ d' v' u' s', lookD k kvs = some d' → Inv X pins σ H s' → VR X.K r H d' v' → RelV v' u' → Q u' s')
    (q2 : ∀ H' s', lookD k kvs = none → Inv X pins σ H' s' → Ext r H r H' → Rel X.K X.mg X.w r (g.set i (.dT (kvs ++ [(k, d)]))) H' → Q u s') : wpAny (model X.prog X.w) A (PySem.call (.builtin "dict.setdefault") [.ref a, .ref b, u]) Q E s := by
  have oo : OR X.K X.mg X.w r H a (.dT kvs) := R.at_ i a _ hi hg
  obtain ⟨xs, ys, h0, D⟩ := (DO.of (g := g) oo rfl).ent I
  have h0 : H a = some (dtO X.w a xs) := by
    rcases h0 with h0 | ⟨o, h0⟩
    · exact h0
    · obtain ⟨xs2, h2, _⟩ := oo
      rw [h0] at h2
      cases h2
  have e1 : kvs.length = ys.length := Paired.length D.pt
  have e2 : xs.length = ys.length := Paired.length D.rel
  have lk := DPt.look hk D.pt
  refine call_setdefault_heap (hsz := by omega) (room_n1 hu) (VR.keyIs I hk hb) D.sys D.dict (fun p hp => ?_) fun hp h' dd sb => ?_
  · cases hl : lookD k kvs with
    | none => rw [hl] at lk; rw [hp] at lk; cases lk
    | some d' =>
      rw [hl] at lk
      obtain ⟨p', v', f1, f2, f3⟩ := lk
      rw [hp] at f1
      cases f1
      exact q1 d' v' _ _ hl (I.tok _) f2 f3
  · have hl : lookD k kvs = none := by
      cases hl : lookD k kvs with
      | none => rfl
      | some d' =>
        rw [hl] at lk
        obtain ⟨p', v', f1, f2, f3⟩ := lk
        rw [hp] at f1
        cases f1
    have x : Ext r H r (upd H a (dtO X.w a (stV xs (nk k) b v))) := .put h0 trivial
    refine q2 (upd H a (dtO X.w a (stV xs (nk k) b v))) _ hl (t_put I h0 D.sys (by have := length_stV xs (nk k) b v; omega) (st_rel rv D.rel) dd sb) x ?_
    have e3 : putD k d kvs = kvs ++ [(k, d)] := by
      unfold putD
      rw [DPTs.any hk D.pts, ← at_any (nk k) D.rel, hp]
      rfl
    rw [← e3]
    exact R.put hi h0 trivial ⟨_, upd_same, (DPTs.put hk hb hd D.pts).mono x⟩
end
end Uk
end
section
set_option Elab.async false
set_option linter.all false
set_option maxRecDepth 100000
set_option autoImplicit false
set_option maxHeartbeats 1000000
namespace Uk
open PySem PySem.Spec PyProof.Rows L2
section
variable {X : L2.Cx} {E : L2.St → XK}
theorem dt_nil {H : Hp} {h : Heap} (hb : sysModules < h.objs.size) : ObjOk X.prog X.w H (h.push { cls := .type "dict", data := .dict #[] }) h.objs.size (dtO X.w h.objs.size []) :=
  dt_new (ys := []) (beq_eq_false_iff_ne.mpr (Ne.symm (Nat.ne_of_lt hb))) (Nat.zero_le _) .nil (Heap.DictOfH.new h)
/-- {} -/
theorem pe_dsp0 {c : Cx} {pos : Pos} : PE X (.Dict [] [] pos) (LE X E (ev c (.dsp true .n))) := by
  refine ⟨fun pins s σ H Q I ⟨r, g, e, R, er, hp⟩ => wpAny_Dict_empty ?_⟩
  have hn := I.hok.fresh (Nat.le_refl s.heap.objs.size)
  have e1 : ev c (.dsp true .n) e g = .ok (.ref g.length) (g ++ [.dT []]) := by
    show mkD true g.length [] (g ++ [.dT []]) = _
    unfold mkD
    rw [get_last]
  rw [e1] at hp
  have R1 : Rel X.K X.mg X.w (r ++ [s.heap.objs.size]) (g ++ [.dT []]) (upd H s.heap.objs.size (dtO X.w s.heap.objs.size [])) := R.new hn ⟨[], upd_same, .nil⟩
  refine ⟨.ref s.heap.objs.size, _, I.laid (a := s.heap.objs.size) (o := dtO X.w s.heap.objs.size []) (t' := s.toks) (fun _ _ q => Heap.get?_push_of_some _ q) (Nat.le_refl _) (dt_nil I.big), rfl, ?_⟩
  refine hp _ _ _ (.newR hn) R1 (.ref ?_)
  rw [← R.len]
  exact get_last
theorem evP_ne {c : Cx} {k v : Uk.E} {ps : Uk.Ps} {e : Env} {g g2 : G} (h : evP c (.c k v ps) e g = .ok [] g2) : False := by
  have h : ((ev c k e g).bind fun x g => (ev c v e g).bind fun y g => (evP c ps e g).bind fun xs g => .ok (x :: y :: xs) g) = .ok [] g2 := h
  cases h1 : ev c k e g with
  | ok x g1 =>
    rw [h1] at h
    have h : ((ev c v e g1).bind fun y g => (evP c ps e g).bind fun xs g => .ok (x :: y :: xs) g) = .ok [] g2 := h
    cases h2 : ev c v e g1 with
    | ok y g3 =>
      rw [h2] at h
      have h : ((evP c ps e g3).bind fun xs g => .ok (x :: y :: xs) g) = .ok [] g2 := h
      cases h3 : evP c ps e g3 with
      | ok z g4 => rw [h3] at h; cases h
      | exc _ _ => rw [h3] at h; cases h
      | bad => rw [h3] at h; cases h
    | exc _ _ => rw [h2] at h; cases h
    | bad => rw [h2] at h; cases h
  | exc _ _ => rw [h1] at h; cases h
  | bad => rw [h1] at h; cases h
theorem vv1 {a b : V} {ws : List (Value × Value)} (h : VV [(a, b)] ws) : ∃ x y, ws = [(x, y)] ∧ RelV a x ∧ RelV b y := by
  cases h with
  | cons q t =>
    cases t
    exact ⟨_, _, rfl, q.1, q.2⟩
/-- {k: v} -/
theorem pe_dspT {c : Cx} {ps : Ps} {keys : List (Option PySem.Expr)} {values : List PySem.Expr} {pos : Pos} (hu : X.A.units + 200 < cLine) (hn0 : ps ≠ .n) (h : PPs X pos keys values (trsOf c E X ps)) (hall : keys.all (·.isSome) = true) (hl : keys.length = values.length) (h0 : keys ≠ []) (h15 : keys.length ≤ 15) :
    PE X (.Dict keys values pos) (LE X E (ev c (.dsp true ps))) := by
  refine ⟨fun pins s σ H Q I ⟨r, g, e, R, er, hp⟩ => ?_⟩
  have hn := I.hok.fresh (Nat.le_refl s.heap.objs.size)
  generalize hpp : s.heap.objs.size = p at hn
  have hp : Post X.K X.mg X.w (E σ) r H ((evP c ps e (g ++ [.dT []])).bind fun ds g' => mkD true g.length ds g') Q := hp
  have R1 : Rel X.K X.mg X.w (r ++ [p]) (g ++ [.dT []]) (upd H p (dtO X.w p [])) := R.new hn ⟨[], upd_same, .nil⟩
  have x1 : Ext r H (r ++ [p]) (upd H p (dtO X.w p [])) := .newR hn
  have ep : (r ++ [p])[g.length]? = some p := by rw [← R.len]; exact get_last
  let Qp : List V → Hp → Prop := fun vs H2 => ∃ (r2 : List Addr) (k d : D) (b : Addr) (v : V), vs = [.ref b, v] ∧ k.keyT = true ∧ H2 p = some (dtO X.w p []) ∧ VR X.K r2 H2 k (.ref b) ∧ VR X.K r2 H2 d v ∧ Q (.ref p) (upd H2 p (dtO X.w p [(nk k, b, v)]))
  have hA : PostA X.K X.mg X.w (E σ) (r ++ [p]) (upd H p (dtO X.w p [])) (evP c ps e (g ++ [.dT []])) Qp := by
    cases hm : evP c ps e (g ++ [.dT []]) with
    | bad => rw [hm] at hp; exact hp.elim
    | exc y g2 =>
      rw [hm] at hp
      exact fun r' H' c d y R' q => hp r' H' c d (x1.trans y) R' q
    | ok ds g2 =>
      rw [hm] at hp
      have hp : Post X.K X.mg X.w (E σ) r H (mkD true g.length ds g2) Q := hp
      intro r2 vs H2 x2 R2 q2
      unfold mkD at hp
      cases ho : g2[g.length]? with
      | none => rw [ho] at hp; exact hp.elim
      | some o =>
        rw [ho] at hp
        cases o with
        | dT kvs0 =>
          cases kvs0 with
          | cons _ _ => exact hp.elim
          | nil =>
            dsimp only at hp
            have ep2 : r2[g.length]? = some p := x2.get ep
            obtain ⟨xs0, h1, h2⟩ := R2.at_ g.length p _ ep2 ho
            cases h2
            match ds, hp, q2 with
            | [], hp, q2 =>
              -- no pair: keys would be empty
              exfalso
              cases ps with
              | n => exact hn0 rfl
              | c k v rest => exact evP_ne hm
            | [k, d], hp, q2 =>
              dsimp only at hp
              split at hp
              · rename_i hk
                obtain ⟨v1, w1, rfl, q3, q4⟩ := q2.inv
                obtain ⟨v2, w2, rfl, q5, q6⟩ := q4.inv
                cases VRs.nil_iff.mp q6
                obtain ⟨xs, rfl, _⟩ := keyT_tup hk
                obtain ⟨b, vs', rfl, _, _⟩ := q3.tup_inv
                refine ⟨r2, _, d, b, v2, rfl, hk, h1, q3, q5, ?_⟩
                have x3 : Ext r2 H2 r2 (upd H2 p (dtO X.w p [(nk (.tup xs), b, v2)])) := .put h1 trivial
                refine hp r2 _ _ ((x1.trans x2).trans x3) ?_ (.ref ep2)
                exact R2.put ep2 h1 trivial ⟨_, upd_same, .cons ⟨hk, rfl, VR.mono x3 _ _ q3, VR.mono x3 _ _ q5⟩ .nil⟩
              · exact hp.elim
            | [_], hp, _ => exact hp.elim
            | _ :: _ :: _ :: _, hp, _ => exact hp.elim
        | _ => exact hp.elim
  have fin := pairs_run ps _ _ _ Qp R1 (er.mono x1) hA
  have I1 := I.laid (a := s.heap.objs.size) (o := dtO X.w s.heap.objs.size []) (h' := s.heap.push { cls := .type "dict", data := .dict #[] }) (t' := s.toks) (fun _ _ q => Heap.get?_push_of_some _ q) (Nat.le_refl _) (dt_nil I.big)
  have hn2 := pairTrees_length keys values X.env pos hall hl
  have hne : pairTrees keys values X.env pos ≠ [] := fun he => by
    rw [he] at hn2
    exact h0 (List.length_eq_zero_iff.mp hn2.symm)
  rw [arm_eval_Dict, zip_pairTrees keys values X.env pos hall hl, dictDisplay_pairs _ hne (by rw [hn2]; omega)]
  refine wpAny_bind (wpAny_standAt (wpAny_bind (wpAny_subDictH (knd := nestedKind X.prog X.w) (room_n hu) (by rw [hn2]; exact h15) ?_)))
  rw [hpp] at I1
  refine thn (h.run pins _ σ _ _ I1 fin) fun ws s2 ⟨prs, H2, I2, rel, r2, k, d, b, v, e1, hk, e2, q1, q2, q3⟩ => ?_
  match prs, e1, rel with
  | [(v1, v2)], e1, rel =>
    have e1 : [v1, v2] = [V.ref b, v] := e1
    cases e1
    obtain ⟨w1, w2, rfl, ra, rb⟩ := vv1 rel
    · obtain rfl : w1 = Value.ref b := ra
      obtain ⟨xs, ys, h0', DD⟩ := (DO.of (r := r2) (g := []) (o := .dT []) (a := p) (H := H2) ⟨[], e2, .nil⟩ rfl).ent I2
      have hys : ys = [] := by
        have := Paired.length DD.pt
        exact List.length_eq_zero_iff.mp this.symm
      subst hys
      refine ⟨[(nk k, b, w2)], ⟨rfl, rfl, VR.keyIs I2 hk q1, trivial⟩, by rw [hpp]; exact DD.dict, fun h' tk dd sb => wpAny_pure ?_⟩
      rw [hpp] at dd sb ⊢
      refine ⟨.ref p, _, ?_, rfl, q3⟩
      refine t_put (ys := [(nk k, b, w2)]) I2 e2 DD.sys (by show 1 ≤ sizeLine; rw [sizeLine_eq]; omega) (.cons ⟨rfl, rfl, rb⟩ .nil) ?_ sb
      exact dd
  | [], e1, _ => cases e1
  | _ :: _ :: _, e1, _ => exact absurd (congrArg List.length e1) (by simp [flatV])
theorem paired_getL {α β : Type} {F : α → β → Prop} : ∀ {l : List α} {m : List β} {i : Nat} {a : α}, Paired F l m → l[i]? = some a → ∃ b, m[i]? = some b ∧ F a b
  | _, _, _, _, .nil, e => by simp at e
  | _, _, 0, _, .cons h t, e => by
    simp at e
    subst e
    exact ⟨_, rfl, h⟩
  | _, _, i + 1, _, .cons h t, e => by
    simp at e
    obtain ⟨b, e1, e2⟩ := paired_getL t e
    exact ⟨b, by simpa using e1, e2⟩
theorem DPTs.keys {K : PySem.W.Frag} {r : List Addr} {H : Hp} : ∀ {kvs : List (D × D)} {xs : List (NestedKey × Addr × V)}, DPTs K r H kvs xs → VRs K r H (kvs.map (·.1)) (xs.map fun x => V.ref x.2.1)
  | _, _, .nil => VRs.nil_iff.mpr rfl
  | _, _, .cons h t => .cons h.2.2.1 (DPTs.keys t)
/-- list(d): the keys -/
theorem t_list {pins : List (Addr × Obj)} {s : Shared} {σ : L2.St} {r : List Addr} {H : Hp} {A : Around} {E' : Value → Shared → Prop} {Q : Value → Shared → Prop} {a : Addr} {kvs : List (D × D)} (hh : A.handled = none) (I : Inv X pins σ H s) (h : DO X r H a kvs)
    (q : ∀ p vs s', H p = none → VRs X.K r H (kvs.map (·.1)) vs → Inv X pins σ (upd H p (.lst vs)) s' → Q (.ref p) s') : wpAny (model X.prog X.w) A (PySem.call (.type "list") [.ref a]) Q E' s := by
  obtain ⟨xs, ys, _, DD⟩ := h.ent I
  obtain ⟨o, es, ep, ho, hx, hdt, he, _, hn⟩ := DD.dict
  have l1 : es.size = ys.length := size_of_entries he
  have l2 : kvs.length = ys.length := Paired.length DD.pt
  have l3 : xs.length = ys.length := Paired.length DD.rel
  have hz := DD.len
  refine PySem.W.kdl_call (kdl_raw DD.sys hx hdt) hh ho (by omega) fun h' tk acc' c' kp e it => ?_
  have ea : acc'.toList = ys.map fun x => Value.ref x.2.1 := by
    have hl : acc'.toList.length = ys.length := by rw [Array.length_toList, it.1]; exact l1
    apply List.ext_getElem?
    intro j
    rw [List.getElem?_map]
    cases hj : acc'.toList[j]? with
    | none =>
      have h1 := List.getElem?_eq_none_iff.mp hj
      rw [List.getElem?_eq_none (by omega)]
      all_goals rfl
    | some v =>
      obtain ⟨en, hen, hv⟩ := it.2 j v (by rw [← Array.getElem?_toList]; exact hj)
      have qe := entry_at he j
      rw [hen] at qe
      cases hb : ys[j]? with
      | none =>
        rw [hb] at qe
        exact nomatch (show some en = none from qe)
      | some b =>
        rw [hb] at qe
        have e2 : en = entryOfKey (nestedKind X.prog X.w) b := Option.some.inj qe
        rw [hv, e2]
        all_goals rfl
  have ek : (xs.map fun x => V.ref x.2.1) = ys.map fun x => V.ref x.2.1 := paired_map_eq (fun x y (q : relXY x y) => by rw [q.2.1]) DD.rel
  have hq := q s.heap.objs.size (xs.map fun x => V.ref x.2.1) { s with heap := h', toks := tk } (I.hok.fresh (Nat.le_refl _)) DD.pts.keys
    (I.laid kp (Nat.le_refl _) (show ObjOk X.prog X.w _ _ _ (.lst (xs.map fun x => V.ref x.2.1)) from ⟨by rw [List.length_map]; exact hz, acc'.toList, c', by
      rw [ea, ek]
      have := vals_refs (ys.map fun x => x.2.1)
      rw [List.map_map, List.map_map] at this
      exact this, by rw [Array.toArray_toList]; exact e⟩))
  exact hq
end
end Uk
end
section
set_option Elab.async false
set_option linter.all false
set_option maxRecDepth 100000
set_option autoImplicit false
set_option maxHeartbeats 1000000
namespace Uk
open PySem PySem.Spec PyProof.Rows L2
/-! ## == -/
theorem eqvAll_len : ∀ {xs ys : List PyData}, xs.length ≠ ys.length → PyData.eqvAll xs ys = false
  | [], [], h => absurd rfl h
  | [], _ :: _, _ => by simp only [PyData.eqvAll]
  | _ :: _, [], _ => by simp only [PyData.eqvAll]
  | x :: xs, y :: ys, h => by
    simp only [PyData.eqvAll]
    rw [eqvAll_len (fun z => h (by simp [z])), Bool.and_false]
theorem pyDs_length : ∀ ds : List D, (pyDs ds).length = ds.length
  | [] => by unfold pyDs; rfl
  | d :: ds => by unfold pyDs; simp [pyDs_length ds]
theorem eqv_list_data {ds : List PyData} : ∀ d : D, d.dep ≤ 60 → PyData.eqv (.list ds) (pyD d) = false ∧ PyData.eqv (pyD d) (.list ds) = false
  | .non, _ => by unfold pyD; simp only [PyData.eqv]; exact ⟨trivial, trivial⟩
  | .bl _, _ => by unfold pyD; simp only [PyData.eqv]; exact ⟨trivial, trivial⟩
  | .int _, _ => by unfold pyD; simp only [PyData.eqv]; exact ⟨trivial, trivial⟩
  | .str _, _ => by unfold pyD; simp only [PyData.eqv]; exact ⟨trivial, trivial⟩
  | .tup _, _ => by unfold pyD; simp only [PyData.eqv]; exact ⟨trivial, trivial⟩
  | .ref _, h => absurd h (by unfold D.dep; omega)
  | .fro _, h => absurd h (by unfold D.dep; omega)
section
variable {K : PySem.W.Frag} {mg : Str → Option Value} {wd : World} {r : List Addr} {g : G} {H : Hp}
/-- two things that are compared: their data -/
def Two (K : PySem.W.Frag) (H : Hp) (n : Nat) (v w : V) (b : Bool) : Prop := ∃ p q, Dp K H v p ∧ Dp K H w q ∧ p.canLay0 = true ∧ q.canLay0 = true ∧ p.depth ≤ 60 + n ∧ q.depth ≤ 60 + n ∧ PyData.eqv p q = b
def TwoL (K : PySem.W.Frag) (H : Hp) (n : Nat) (vs ws : List V) (b : Bool) : Prop := ∃ p q, DpAll K H vs p ∧ DpAll K H ws q ∧ PyData.canLayAll0 p = true ∧ PyData.canLayAll0 q = true ∧ PyData.depthAll p ≤ 60 + n ∧ PyData.depthAll q ≤ 60 + n ∧ PyData.eqvAll p q = b
theorem two_ls {n : Nat} {f : D → D → Option Bool} (hf : ∀ x y b v w, f x y = some b → VR K r H x v → VR K r H y w → Two K H n v w b) : ∀ (xs ys : List D) (b : Bool) (vs ws : List V), eqLs f xs ys = some b → VRs K r H xs vs → VRs K r H ys ws → TwoL K H n vs ws b
  | [], [], b, vs, ws, h, hv, hw => by
    cases h
    rw [VRs.nil_iff.mp hv, VRs.nil_iff.mp hw]
    exact ⟨[], [], .nil, .nil, by simp only [PyData.canLayAll0], by simp only [PyData.canLayAll0], by simp only [PyData.depthAll]; omega, by simp only [PyData.depthAll]; omega, by simp only [PyData.eqvAll]⟩
  | [], _ :: _, b, vs, ws, h, _, _ => by cases h
  | _ :: _, [], b, vs, ws, h, _, _ => by cases h
  | x :: xs, y :: ys, b, vs, ws, h, hv, hw => by
    obtain ⟨v, vs, rfl, h1, h2⟩ := hv.inv
    obtain ⟨w, ws, rfl, h3, h4⟩ := hw.inv
    unfold eqLs at h
    split at h
    · rename_i b1 b2 e1 e2
      cases h
      obtain ⟨p, q, d1, d2, c1, c2, m1, m2, e⟩ := hf x y b1 v w e1 h1 h3
      obtain ⟨ps, qs, d3, d4, c3, c4, m3, m4, e'⟩ := two_ls hf xs ys b2 vs ws e2 h2 h4
      refine ⟨p :: ps, q :: qs, .cons d1 d3, .cons d2 d4, ?_, ?_, ?_, ?_, ?_⟩
      · simp only [PyData.canLayAll0, c1, c3, Bool.and_self]
      · simp only [PyData.canLayAll0, c2, c4, Bool.and_self]
      · simp only [PyData.depthAll]; omega
      · simp only [PyData.depthAll]; omega
      · simp only [PyData.eqvAll, e, e']
    · cases h
theorem two_data {x y : D} {v w : V} {n : Nat} (hx : VR K r H x v) (hy : VR K r H y w) (h1 : x.dep ≤ 60) (h2 : y.dep ≤ 60) : Two K H n v w (D.eqv x y) :=
  ⟨pyD x, pyD y, VR.dp x v hx h1, VR.dp y w hy h2, pyD_lay x, pyD_lay y, by have := pyD_dep x; omega, by have := pyD_dep y; omega, pyD_eqv x y h1 h2⟩
theorem dp_list {xs : List D} {a : Addr} {vs : List V} (h1 : H a = some (.lst vs)) (h2 : VRs K r H xs vs) (h : D.deps xs ≤ 60) : Dp K H (.ref a) (.list (pyDs xs)) := .lst (.of h1) (VRs.dp xs vs h2 h)
theorem two_lists {xs ys : List D} {v w : V} {a b : Nat} {n : Nat} (R : Rel K mg wd r g H) (hx : VR K r H (.ref a) v) (hy : VR K r H (.ref b) w) (ea : lsOf g a = some xs) (eb : lsOf g b = some ys) (h1 : D.deps xs ≤ 60) (h2 : D.deps ys ≤ 60) (hl : xs.length ≠ ys.length) :
    Two K H (n + 1) v w false := by
  obtain ⟨p, vs, _, rfl, h3, h4⟩ := R.lst ea hx
  obtain ⟨q, ws, _, rfl, h5, h6⟩ := R.lst eb hy
  refine ⟨_, _, dp_list h3 h4 h1, dp_list h5 h6 h2, ?_, ?_, ?_, ?_, ?_⟩
  · simp only [PyData.canLay0]; exact pyDs_lay xs
  · simp only [PyData.canLay0]; exact pyDs_lay ys
  · simp only [PyData.depth]; have := pyDs_dep xs; omega
  · simp only [PyData.depth]; have := pyDs_dep ys; omega
  · simp only [PyData.eqv]
    exact eqvAll_len (by rw [pyDs_length, pyDs_length]; exact hl)
theorem eqF_two (R : Rel K mg wd r g H) : ∀ (n : Nat) (x y : D) (b : Bool) (v w : V), eqF g n x y = some b → VR K r H x v → VR K r H y w → Two K H n v w b
  | 0, _, _, _, _, _, h, _, _ => by cases h
  | n + 1, x, y, b, v, w, h, hx, hy => by
    have okd : ∀ {d : D}, d.ok = true → d.dep ≤ 60 := fun h => of_decide_eq_true h
    have oks : ∀ {d : List D}, oksB d = true → D.deps d ≤ 60 := fun h => of_decide_eq_true h
    have dat : (if (x.ok && y.ok) = true then some (D.eqv x y) else none) = some b → Two K H (n + 1) v w b := fun h => by
      split at h
      · rename_i c
        cases h
        rw [Bool.and_eq_true] at c
        exact two_data hx hy (okd c.1) (okd c.2)
      · cases h
    cases x with
    | ref i =>
      cases y with
      | ref j =>
        have h : (match lsOf g i, lsOf g j with
          | some xs, some ys => if xs.length = ys.length then eqLs (eqF g n) xs ys else if (oksB xs && oksB ys) = true then some false else none
          | _, _ => none) = some b := h
        split at h
        · rename_i xs ys e1 e2
          split at h
          · obtain ⟨p, vs, _, rfl, h3, h4⟩ := R.lst e1 hx
            obtain ⟨q, ws, _, rfl, h5, h6⟩ := R.lst e2 hy
            obtain ⟨ps, qs, d3, d4, c3, c4, m3, m4, e'⟩ := two_ls (fun x y b v w => eqF_two R n x y b v w) xs ys b vs ws h h4 h6
            refine ⟨.list ps, .list qs, .lst (.of h3) d3, .lst (.of h5) d4, ?_, ?_, ?_, ?_, ?_⟩
            · simp only [PyData.canLay0]; exact c3
            · simp only [PyData.canLay0]; exact c4
            · simp only [PyData.depth]; omega
            · simp only [PyData.depth]; omega
            · simp only [PyData.eqv]; exact e'
          · rename_i hl
            split at h
            · rename_i c
              cases h
              rw [Bool.and_eq_true] at c
              exact two_lists R hx hy e1 e2 (oks c.1) (oks c.2) hl
            · cases h
        · cases h
      | _ =>
        have h : (match lsOf g i with
          | some xs => if (oksB xs && D.ok _) = true then some false else none
          | none => none) = some b := h
        split at h
        · rename_i xs e1
          split at h
          · rename_i c
            cases h
            rw [Bool.and_eq_true] at c
            obtain ⟨p, vs, _, rfl, h3, h4⟩ := R.lst e1 hx
            refine ⟨_, _, dp_list h3 h4 (oks c.1), VR.dp _ w hy (okd c.2), ?_, pyD_lay _, ?_, ?_, (eqv_list_data _ (okd c.2)).1⟩
            · simp only [PyData.canLay0]; exact pyDs_lay xs
            · simp only [PyData.depth]; have := pyDs_dep xs; have := oks c.1; omega
            · have h7 := okd c.2; refine Nat.le_trans (pyD_dep _) ?_; omega
          · cases h
        · cases h
    | _ =>
      cases y with
      | ref j =>
        have h : (match lsOf g j with
          | some xs => if (oksB xs && D.ok _) = true then some false else none
          | none => none) = some b := h
        split at h
        · rename_i xs e1
          split at h
          · rename_i c
            cases h
            rw [Bool.and_eq_true] at c
            obtain ⟨p, vs, _, rfl, h3, h4⟩ := R.lst e1 hy
            refine ⟨_, _, VR.dp _ v hx (okd c.2), dp_list h3 h4 (oks c.1), pyD_lay _, ?_, ?_, ?_, (eqv_list_data _ (okd c.2)).2⟩
            · simp only [PyData.canLay0]; exact pyDs_lay xs
            · have h7 := okd c.2; refine Nat.le_trans (pyD_dep _) ?_; omega
            · simp only [PyData.depth]; have := pyDs_dep xs; have := oks c.1; omega
          · cases h
        · cases h
      | _ => exact dat h
end
section
variable {X : L2.Cx} {ck : Arguments → List Stmt → Scope → FDef → Bool} {c : Cx} {N : List String} {sc : Scope} {E : XK} {ES : L2.St → XK} {r : List Addr} {H : Hp} {g : G} {Q : VK} {pins : List (Addr × Obj)} {s : Shared} {σ : L2.St} {v w : V} {a b : Value} {x y : D}
theorem XOk.units (O : XOk X ck c N sc ES) : X.A.units + 200 < cLine := by
  obtain ⟨n, hr, _⟩ := O.room
  have := hr.un
  omega
theorem shaped_of {p : PyData} (h1 : p.canLay0 = true) (h2 : p.depth ≤ 64) : SeqAt.shaped p = true := by
  show (p.canLay0 && decide (p.depth ≤ 64)) = true
  rw [h1, Bool.true_and]
  exact decide_eq_true h2
theorem eq_data (O : XOk X ck c N sc ES) (I : Inv X pins σ H s) (R : Rel X.K X.mg X.w r g H) (hx : VR X.K r H x v) (hy : VR X.K r H y w) (ra : RelV v a) (rb : RelV w b) {z : Bool} (hz : eqF g 4 x y = some z) :
    (∀ Q : VK, Q (.bl z) H → wpAny (model X.prog X.w) X.A (compareOp .Eq a b) (EP X pins σ Q) X.xe s) ∧ (∀ Q : VK, Q (.bl (!z)) H → wpAny (model X.prog X.w) X.A (compareOp .NotEq a b) (EP X pins σ Q) X.xe s) := by
  obtain ⟨p, q, d1, d2, c1, c2, m1, m2, e⟩ := eqF_two R 4 x y z v w hz hx hy
  have u := O.units
  refine ⟨fun Q h => op_eqD (by omega) pins s σ H v w a b Q I ra rb ⟨p, q, d1, d2, shaped_of c1 (by omega), shaped_of c2 (by omega), by rw [e]; exact h⟩,
    fun Q h => op_neD (by omega) pins s σ H v w a b Q I ra rb ⟨p, q, d1, d2, shaped_of c1 (by omega), shaped_of c2 (by omega), by rw [e]; exact h⟩⟩
theorem pyDs_any {x : D} (hx : x.dep ≤ 60) : ∀ {ys : List D}, D.deps ys ≤ 60 → ((pyDs ys).any fun z => PyData.eqv z (pyD x)) = ys.any fun z => D.eqv z x
  | [], _ => by unfold pyDs; rfl
  | y :: ys, h => by
    unfold D.deps at h
    unfold pyDs
    rw [List.any_cons, List.any_cons, pyD_eqv y x (by omega) hx, pyDs_any hx (by omega)]
theorem sgnIn_is {w z : String} {q : Bool} (h : sgnIn w z = some q) : ∃ c : Nat, sS w = ⟨#[c]⟩ ∧ decide (c ∈ (sS z).cps.toList) = q := by
  unfold sgnIn at h
  split at h
  · rename_i c hc
    cases h
    refine ⟨c.toNat, ?_, ?_⟩
    · apply Str.ext'
      apply Array.toList_inj.mp
      rw [sS_cps, hc]
      rfl
    · rw [sS_cps]
      by_cases hm : c ∈ z.toList
      · rw [decide_eq_true (List.mem_map.mpr ⟨c, hm, rfl⟩)]
        exact (List.contains_iff_mem.mpr hm).symm
      · rw [decide_eq_false]
        · exact (Bool.eq_false_iff.mpr fun e => hm (List.contains_iff_mem.mp e)).symm
        · intro e
          obtain ⟨d, hd, e⟩ := List.mem_map.mp e
          rw [Char.toNat_inj.mp e] at hd
          exact hm hd
  · cases h
/-- in, not in -/
theorem in_data (O : XOk X ck c N sc ES) (I : Inv X pins σ H s) (R : Rel X.K X.mg X.w r g H) (hx : VR X.K r H x v) (hy : VR X.K r H y w) (ra : RelV v a) (rb : RelV w b) {z : Bool} (hz : inOp x y g = some z) :
    (∀ Q : VK, Q (.bl z) H → wpAny (model X.prog X.w) X.A (compareOp .In a b) (EP X pins σ Q) X.xe s) ∧ (∀ Q : VK, Q (.bl (!z)) H → wpAny (model X.prog X.w) X.A (compareOp .NotIn a b) (EP X pins σ Q) X.xe s) := by
  have u := O.units
  have okd : ∀ {d : D}, d.ok = true → d.dep ≤ 60 := fun h => of_decide_eq_true h
  have oks : ∀ {d : List D}, oksB d = true → D.deps d ≤ 60 := fun h => of_decide_eq_true h
  cases y with
  | tup ys =>
    have hz : (if (x.ok && oksB ys) = true then some (ys.any fun z => D.eqv z x) else none) = some z := hz
    split at hz
    · rename_i k
      cases hz
      rw [Bool.and_eq_true] at k
      obtain ⟨p, vs, rfl, h1, h2⟩ := hy.tup_inv
      have hd := VR.dp x v hx (okd k.1)
      have hds : Dp X.K H (.ref p) (.tuple (pyDs ys)) := .tup h1 (VRs.dp ys vs h2 (oks k.2))
      obtain ⟨as, r1⟩ := Dp.reads I _ v a hd ra
      obtain ⟨bs, r2⟩ := Dp.reads I _ _ b hds rb
      have sx := pyD_shaped (okd k.1)
      have rm := room_in_shaped (A := X.A) (xs := pyDs ys) sx (by omega)
      refine ⟨fun Q h => SeqAt.in_tuple_reads r2 r1 (pyDs_lay ys) (pyD_lay x) rm ⟨.bl _, H, I, rfl, ?_⟩, fun Q h => SeqAt.notIn_tuple_reads r2 r1 (pyDs_lay ys) (pyD_lay x) rm ⟨.bl _, H, I, rfl, ?_⟩⟩
      · rw [pyDs_any (okd k.1) (oks k.2)]; exact h
      · rw [pyDs_any (okd k.1) (oks k.2)]; exact h
    · cases hz
  | ref j =>
    obtain ⟨p, e, rfl⟩ := hy.ref_inv
    obtain ⟨o, ho, oo⟩ := R.get e
    unfold inOp at hz
    dsimp only at hz
    rw [ho] at hz
    cases o with
    | lst ys =>
      dsimp only at hz
      split at hz
      · rename_i k
        cases hz
        rw [Bool.and_eq_true] at k
        obtain ⟨vs, h1, h2⟩ := oo
        have hd := VR.dp x v hx (okd k.1)
        have hds := dp_list (K := X.K) h1 h2 (oks k.2)
        refine ⟨fun Q h => op_inD (by omega) pins s σ H v _ a b Q I ra rb ⟨_, _, hd, hds, pyD_shaped (okd k.1), pyDs_shapedL (oks k.2), ?_⟩, fun Q h => op_notInD (by omega) pins s σ H v _ a b Q I ra rb ⟨_, _, hd, hds, pyD_shaped (okd k.1), pyDs_shapedL (oks k.2), ?_⟩⟩
        · rw [pyDs_any (okd k.1) (oks k.2)]; exact h
        · rw [pyDs_any (okd k.1) (oks k.2)]; exact h
      · cases hz
    | dK kvs =>
      have hk : ∃ kk, keyOf x = some kk ∧ (lookD x kvs).isSome = z := by
        cases x <;> first
          | (cases hz; done)
          | (refine ⟨_, rfl, ?_⟩; exact Option.some.inj hz)
      obtain ⟨kk, hk, rfl⟩ := hk
      obtain ⟨o2, g2, e2⟩ := din_ok hk oo
      have ev := key_val hk hx
      subst ev
      obtain rfl : b = Value.ref p := rb
      rw [← e2]
      exact ⟨fun Q h => d_in (by omega) I g2 ra fun s1 I1 => ⟨.bl _, H, I1, rfl, h⟩, fun Q h => d_notIn (by omega) I g2 ra fun s1 I1 => ⟨.bl _, H, I1, rfl, h⟩⟩
    | dT kvs =>
      dsimp only at hz
      split at hz
      · rename_i hk
        cases hz
        obtain ⟨xs, rfl, _⟩ := keyT_tup hk
        obtain ⟨b', vs', rfl, _, _⟩ := hx.tup_inv
        obtain rfl : a = Value.ref b' := ra
        obtain rfl : b = Value.ref p := rb
        have dO : DO X r H p kvs := .of (g := g) oo rfl
        exact ⟨fun Q h => t_in (by omega) I dO hk hx fun s1 I1 => ⟨.bl _, H, I1, rfl, h⟩, fun Q h => t_nin (by omega) I dO hk hx fun s1 I1 => ⟨.bl _, H, I1, rfl, h⟩⟩
      · cases hz
    | lk kvs =>
      dsimp only at hz
      split at hz
      · rename_i hk
        cases hz
        obtain ⟨xs, rfl, _⟩ := keyT_tup hk
        obtain ⟨b', vs', rfl, _, _⟩ := hx.tup_inv
        obtain rfl : a = Value.ref b' := ra
        obtain rfl : b = Value.ref p := rb
        have dO : DO X r H p kvs := .of (g := g) oo rfl
        exact ⟨fun Q h => t_in (by omega) I dO hk hx fun s1 I1 => ⟨.bl _, H, I1, rfl, h⟩, fun Q h => t_nin (by omega) I dO hk hx fun s1 I1 => ⟨.bl _, H, I1, rfl, h⟩⟩
      · cases hz
    | ins _ _ => cases hz
  | str zz =>
    cases x with
    | str ww =>
      obtain ⟨cc, e1, e2⟩ := sgnIn_is (show sgnIn ww zz = some z from hz)
      have rx : v = V.str ⟨#[cc]⟩ := by rw [hx.str_inv, e1]
      have ry : w = V.str (sS zz) := hy.str_inv
      exact ⟨fun Q h => op_in_sign pins s σ H v w a b Q I ra rb ⟨cc, _, rx, ry, by rw [e2]; exact h⟩, fun Q h => op_notIn_sign pins s σ H v w a b Q I ra rb ⟨cc, _, rx, ry, by rw [e2]; exact h⟩⟩
    | _ => cases hz
  | _ => cases hz
/-- an own == , !=: by the class's def; here only where a side is an instance -/
def EqIns (X : L2.Cx) (c : Cx) (E : XK) : Prop := ∀ (pins : List (Addr × Obj)) (s : Shared) (σ : L2.St) (H : Hp) (r : List Addr) (g : G) (i : Nat) (k : String) (fs : List (String × D)) (y : D) (v w : V) (a b : Value) (Q : VK), Inv X pins σ H s → Rel X.K X.mg X.w r g H →
  g[i]? = some (.ins k fs) → VR X.K r H (.ref i) v → VR X.K r H y w → RelV v a → RelV w b →
    (Post X.K X.mg X.w E r H ((eqOp c (.ref i) y g).bind fun b g => .ok (.bl b) g) Q → wpAny (model X.prog X.w) X.A (compareOp .Eq a b) (EP X pins σ Q) X.xe s) ∧
    (neOk g (.ref i) y = true → Post X.K X.mg X.w E r H ((eqOp c (.ref i) y g).bind fun b g => .ok (.bl (!b)) g) Q → wpAny (model X.prog X.w) X.A (compareOp .NotEq a b) (EP X pins σ Q) X.xe s)
theorem eqOp_case (x y : D) (g : G) (c : Cx) : (∃ i k fs, x = .ref i ∧ g[i]? = some (.ins k fs)) ∨ (eqOp c x y g = match eqF g 4 x y with
    | some b => .ok b g
    | none => .bad) := by
  cases x with
  | ref i =>
    cases h : g[i]? with
    | none => right; simp only [eqOp, h]; try rfl
    | some o =>
      cases o with
      | ins k fs => exact .inl ⟨i, k, fs, rfl, h⟩
      | _ => right; simp only [eqOp, h]; try rfl
  | _ => right; rfl
theorem cmp_ok (O : XOk X ck c N sc ES) (EI : EqIns X c E) {o : Cop} {e : Uk.E} (hn : isnOk o e = true) (hw : isnC e = true → w = .non) (I : Inv X pins σ H s) (R : Rel X.K X.mg X.w r g H) (hx : VR X.K r H x v) (hy : VR X.K r H y w) (ra : RelV v a) (rb : RelV w b)
    (hp : Post X.K X.mg X.w E r H (cmpop c o x y g) Q) : wpAny (model X.prog X.w) X.A (compareOp (copOp o) a b) (EP X pins σ Q) X.xe s := by
  have ord : ∀ {op : CmpOp} {f : Int → Int → Bool}, OpR X (compareOp op) (rI0 fun i j => .bl (f i j)) → Post X.K X.mg X.w E r H (ordI f x y g) Q → wpAny (model X.prog X.w) X.A (compareOp op a b) (EP X pins σ Q) X.xe s := fun {op f} ho hp => by
    cases x with
    | int i =>
      cases y with
      | int j =>
        rw [hx.int_inv] at ra
        rw [hy.int_inv] at rb
        exact ho pins s σ H _ _ a b Q I ra rb ⟨i, j, rfl, rfl, Post.here hp R .bl⟩
      | _ => exact hp.elim
    | _ => cases y <;> exact hp.elim
  have hv : x.isNon = decide (v = .non) := by
    cases x with
    | non => rw [hx.non_inv]; rfl
    | bl _ => rw [hx.bl_inv]; rfl
    | int _ => rw [hx.int_inv]; rfl
    | str _ => rw [hx.str_inv]; rfl
    | tup _ => obtain ⟨_, _, e, _⟩ := hx.tup_inv; rw [e]; rfl
    | ref _ => obtain ⟨_, _, e⟩ := hx.ref_inv; rw [e]; rfl
    | fro _ => obtain ⟨_, _, e, _⟩ := hx.fro_inv; rw [e]; rfl
  cases o with
  | eq =>
    rcases eqOp_case x y g c with ⟨i, k, fs, rfl, hi⟩ | h
    · exact (EI pins s σ H r g i k fs y v w a b Q I R hi hx hy ra rb).1 hp
    · have hp : Post X.K X.mg X.w E r H ((eqOp c x y g).bind fun b g => .ok (.bl b) g) Q := hp
      rw [h] at hp
      cases hz : eqF g 4 x y with
      | none => rw [hz] at hp; exact hp.elim
      | some z =>
        rw [hz] at hp
        exact (eq_data O I R hx hy ra rb hz).1 Q (Post.here (d := .bl z) hp R .bl)
  | ne =>
    have hp : Post X.K X.mg X.w E r H (if neOk g x y then (eqOp c x y g).bind fun b g => .ok (.bl (!b)) g else .bad) Q := hp
    split at hp
    · rename_i hne
      rcases eqOp_case x y g c with ⟨i, k, fs, rfl, hi⟩ | h
      · exact (EI pins s σ H r g i k fs y v w a b Q I R hi hx hy ra rb).2 hne hp
      have hp : Post X.K X.mg X.w E r H ((eqOp c x y g).bind fun b g => .ok (.bl (!b)) g) Q := hp
      rw [h] at hp
      cases hz : eqF g 4 x y with
      | none => rw [hz] at hp; exact hp.elim
      | some z =>
        rw [hz] at hp
        exact (eq_data O I R hx hy ra rb hz).2 Q (Post.here (d := .bl (!z)) hp R .bl)
    · exact hp.elim
  | lt => exact ord op_lt hp
  | le => exact ord op_le hp
  | gt => exact ord op_gt hp
  | ge => exact ord op_ge hp
  | isn =>
    have hw2 := hw hn
    subst hw2
    have hp : Post X.K X.mg X.w E r H (.ok (.bl x.isNon) g) Q := hp
    refine op_isN pins s σ H v _ a b Q I ra rb ⟨rfl, ?_⟩
    rw [← hv]
    exact hp.here R .bl
  | notn =>
    have hw2 := hw hn
    subst hw2
    have hp : Post X.K X.mg X.w E r H (.ok (.bl (!x.isNon)) g) Q := hp
    refine op_notN pins s σ H v _ a b Q I ra rb ⟨rfl, ?_⟩
    rw [← hv]
    exact hp.here R .bl
  | in_ =>
    have hp : Post X.K X.mg X.w E r H (orElse (inOp x y g) fun b => .ok (.bl b) g) Q := hp
    cases hz : inOp x y g with
    | none => rw [hz] at hp; exact hp.elim
    | some z =>
      rw [hz] at hp
      exact (in_data O I R hx hy ra rb hz).1 Q (Post.here (d := .bl z) hp R .bl)
  | nin =>
    have hp : Post X.K X.mg X.w E r H (orElse (inOp x y g) fun b => .ok (.bl (!b)) g) Q := hp
    cases hz : inOp x y g with
    | none => rw [hz] at hp; exact hp.elim
    | some z =>
      rw [hz] at hp
      exact (in_data O I R hx hy ra rb hz).2 Q (Post.here (d := .bl (!z)) hp R .bl)
end
end Uk
end
section
set_option Elab.async false
set_option linter.all false
set_option maxRecDepth 100000
set_option autoImplicit false
set_option maxHeartbeats 1000000
namespace Uk
open PySem PySem.Spec PyProof.Rows L2
/-! ## Subscripts, slices, built-ins, isinstance, attributes, methods, by values -/
theorem atI_two {K : PySem.W.Frag} {r : List Addr} {H : Hp} {xs : List D} {vs : List V} {i : Int} {d : D} (h : VRs K r H xs vs) (e : Uk.atI xs i = some d) : ∃ v, L2.atI vs i = some v ∧ VR K r H d v := by
  unfold Uk.atI at e
  obtain ⟨j, h1, h2⟩ := Option.bind_eq_some_iff.mp e
  obtain ⟨v, h3, h4⟩ := h.get h2
  refine ⟨v, ?_, h4⟩
  unfold L2.atI
  have e1 : L2.ixN vs.length i = some j := by rw [h.length]; exact h1
  rw [e1]
  exact h3
section
variable {X : L2.Cx} {ck : Arguments → List Stmt → Scope → FDef → Bool} {c : Cx} {N : List String} {sc : Scope} {E : XK} {ES : L2.St → XK} {r : List Addr} {H : Hp} {g : G} {Q : VK} {pins : List (Addr × Obj)} {s : Shared} {σ : L2.St} {v w : V} {a b : Value} {x y : D}
/-- a two-place operation that the interpreter knows, as a reading -/
def r2Of (X : L2.Cx) (E : XK) (f : D → D → G → R D) (C : V → Prop) : R2 := fun v w H Q => C w ∧ ∃ (r : List Addr) (g : G) (x y : D), Rel X.K X.mg X.w r g H ∧ VR X.K r H x v ∧ VR X.K r H y w ∧ Post X.K X.mg X.w E r H (f x y g) Q
theorem opr_bin {o : Bop} : OpR X (binaryOp (bopOp o)) (r2Of X E (binop o) fun _ => True) := fun pins s σ H v w a b Q I ra rb ⟨_, r, g, x, y, R, hx, hy, hp⟩ => bin_ok I R hx hy ra rb hp
theorem opr_cmp (O : XOk X ck c N sc ES) (EI : EqIns X c E) {o : Cop} {e : Uk.E} (hn : isnOk o e = true) : OpR X (compareOp (copOp o)) (r2Of X E (cmpop c o) fun w => isnC e = true → w = .non) := fun pins s σ H v w a b Q I ra rb ⟨hw, r, g, x, y, R, hx, hy, hp⟩ => cmp_ok O EI hn hw I R hx hy ra rb hp
theorem dict_tail {value slice : PySem.Expr} {o i : Value} {A : Around} {Q : Value → Shared → Prop} {E : Value → Shared → Prop} (hT : s.TypeIs o "dict") (hs : subscripted slice false o i = operate [o, i] (getItem o i)) (h : wpAny (model X.prog X.w) A (getItem o i) Q E s) :
    wpAny (model X.prog X.w) A (subscriptTail value slice o i) Q E s := by
  unfold subscriptTail
  refine wpAny_bind ?_
  rw [getitemInPython_of_ne hT.not_modules]
  refine wpAny_bind (wpAny_specialOf hT PySem.F.slot_dict_getitem.lookup ?_)
  have fin : wpAny (model X.prog X.w) A (subscripted slice false o i) (fun r s₃ => wpAny (model X.prog X.w) A (letTemporaryGo value o r >>= fun _ => pure r) Q E s₃) E s := by
    rw [hs]
    exact wpAny_operating (wpAny_mono h (fun r s₃ h₃ => wpAny_bind (wpAny_letTemporaryGo (wpAny_pure h₃))) fun _ _ x => x)
  first
    | exact wpAny_pure (wpAny_bind fin)
    | exact wpAny_bind (wpAny_pure (wpAny_bind fin))
    | exact wpAny_bind fin
theorem ix_dK (hu : X.A.units + 200 < cLine) {value slice : PySem.Expr} (I : Inv X pins σ H s) (R : Rel X.K X.mg X.w r g H) {p : Addr} {kvs : List (D × D)} {k : D} {kk : Key} (hk : keyOf k = some kk) (oo : OR X.K X.mg X.w r H p (.dK kvs)) (hy : VR X.K r H k w) (rb : RelV w b)
    (hp : Post X.K X.mg X.w E r H (orElse (lookD k kvs) fun v => .ok v g) Q) (hs : subscripted slice false (.ref p) b = operate [.ref p, b] (getItem (.ref p) b)) : wpAny (model X.prog X.w) X.A (subscriptTail value slice (.ref p) b) (EP X pins σ Q) X.xe s := by
  cases hl : lookD k kvs with
  | none => rw [hl] at hp; exact hp.elim
  | some d =>
    rw [hl] at hp
    obtain ⟨v, g2, q⟩ := dget_ok (g := g) hk oo hl
    have ev := key_val hk hy
    subst ev
    exact dict_tail (dict_typeIs I g2) hs (d_getItem (by omega) I g2 rb fun w' s3 I3 rw' => ⟨v, H, I3, rw', Post.here (d := d) hp R q⟩)
theorem ix_dT (hu : X.A.units + 200 < cLine) {value slice : PySem.Expr} (I : Inv X pins σ H s) (R : Rel X.K X.mg X.w r g H) {p : Addr} {kvs : List (D × D)} {ks : List D} (oo : DO X r H p kvs) (hy : VR X.K r H (.tup ks) w) (rb : RelV w b)
    (hp : Post X.K X.mg X.w E r H (if (D.tup ks).keyT then orElse (lookD (.tup ks) kvs) fun v => .ok v g else .bad) Q) (hs : subscripted slice false (.ref p) b = operate [.ref p, b] (getItem (.ref p) b)) : wpAny (model X.prog X.w) X.A (subscriptTail value slice (.ref p) b) (EP X pins σ Q) X.xe s := by
  split at hp
  · rename_i hk
    cases hl : lookD (.tup ks) kvs with
    | none => rw [hl] at hp; exact hp.elim
    | some d =>
      rw [hl] at hp
      obtain ⟨b', vs', rfl, _, _⟩ := hy.tup_inv
      obtain rfl : b = Value.ref b' := rb
      obtain ⟨h1, h2⟩ := t_get (A := X.A) (E := X.xe) (Q := EP X pins σ Q) hu I oo hk hy hl fun v u s' I' q ru => ⟨v, H, I', ru, Post.here (d := d) hp R q⟩
      exact dict_tail h1 hs h2
  · exact hp.elim
theorem ixr_ok (hu : X.A.units + 200 < cLine) : IxR X (r2Of X E getIx fun _ => True) := by
  intro value slice pins s σ H v w a b Q I ra rb ⟨_, r, g, x, y, R, hx, hy, hp⟩ hs
  cases x with
  | tup xs =>
    cases y with
    | int k =>
      obtain ⟨p, vs, rfl, h1, h2⟩ := hx.tup_inv
      have e2 := hy.int_inv
      have hp : Post X.K X.mg X.w E r H (orElse (Uk.atI xs k) fun v => .ok v g) Q := hp
      cases h : Uk.atI xs k with
      | none => rw [h] at hp; exact hp.elim
      | some d =>
        rw [h] at hp
        obtain ⟨z, h3, h4⟩ := atI_two h2 h
        exact ix_tup value slice pins s σ H _ w a b Q I ra rb ⟨p, vs, k, z, rfl, e2, h1, h3, Post.here (d := d) hp R h4⟩ hs
    | _ => exact hp.elim
  | ref i =>
    obtain ⟨p, e, rfl⟩ := hx.ref_inv
    obtain ⟨o, ho, oo⟩ := R.get e
    cases y with
    | int k =>
      have e2 := hy.int_inv
      unfold getIx at hp
      dsimp only at hp
      rw [ho] at hp
      cases o with
      | lst xs =>
        obtain ⟨vs, h1, h2⟩ := oo
        have hp : Post X.K X.mg X.w E r H (orElse (Uk.atI xs k) fun v => .ok v g) Q := hp
        cases h : Uk.atI xs k with
        | none => rw [h] at hp; exact hp.elim
        | some d =>
          rw [h] at hp
          obtain ⟨z, h3, h4⟩ := atI_two h2 h
          exact ix_list value slice pins s σ H _ w a b Q I ra rb ⟨p, vs, k, z, rfl, e2, .of h1, h3, Post.here (d := d) hp R h4⟩ hs
      | dK kvs =>
        obtain rfl : a = Value.ref p := ra
        exact ix_dK hu I R (k := .int k) rfl oo hy rb hp hs
      | dT _ => exact hp.elim
      | lk _ => exact hp.elim
      | ins _ _ => exact hp.elim
    | str k =>
      unfold getIx at hp
      dsimp only at hp
      rw [ho] at hp
      cases o with
      | lst xs => exact hp.elim
      | dK kvs =>
        obtain rfl : a = Value.ref p := ra
        exact ix_dK hu I R (k := .str k) rfl oo hy rb hp hs
      | dT _ => exact hp.elim
      | lk _ => exact hp.elim
      | ins _ _ => exact hp.elim
    | tup k =>
      unfold getIx at hp
      dsimp only at hp
      rw [ho] at hp
      cases o with
      | lst xs => exact hp.elim
      | dK _ => exact hp.elim
      | dT kvs =>
        obtain rfl : a = Value.ref p := ra
        exact ix_dT hu I R (.of (g := g) oo rfl) hy rb hp hs
      | lk kvs =>
        obtain rfl : a = Value.ref p := ra
        exact ix_dT hu I R (.of (g := g) oo rfl) hy rb hp hs
      | ins _ _ => exact hp.elim
    | _ => exact hp.elim
  | _ => cases y <;> exact hp.elim
/-- slices -/
def slOf (X : L2.Cx) (E : XK) : V → Option Int → Option Int → Hp → VK → Prop := fun v lo hi H Q => ∃ (r : List Addr) (g : G) (x : D), Rel X.K X.mg X.w r g H ∧ VR X.K r H x v ∧ Post X.K X.mg X.w E r H (getCut x lo hi g) Q
theorem sIxE_eq (n d : Nat) (o : Option Int) : sIxE n d o = HT.sIx n d o := by
  cases o with
  | none => rfl
  | some i =>
    by_cases h : i < 0
    · have e1 : sIxE n d (some i) = (i + n).toNat := if_pos h
      have e2 := HT.clip_eq i n d
      rw [if_pos h] at e2
      omega
    · have e1 : sIxE n d (some i) = min i.toNat n := if_neg h
      have e2 := HT.clip_eq i n d
      rw [if_neg h] at e2
      omega
theorem cut_vals {K : PySem.W.Frag} {r : List Addr} {H : Hp} {xs : List D} {vs : List V} (h : VRs K r H xs vs) (lo hi : Option Int) : VRs K r H (cutL xs (sIxE xs.length 0 lo) (sIxE xs.length xs.length hi)) (L2.cutV vs lo hi) := by
  unfold cutL L2.cutV
  rw [sIxE_eq, sIxE_eq, h.length]
  exact (h.drop _).take _
theorem cutT_eq (s : String) (lo hi : Option Int) : sS (cutT s lo hi) = L2.cutS (sS s) lo hi := by
  apply Str.ext'
  apply Array.toList_inj.mp
  rw [sS_cps]
  unfold cutT L2.cutS cutL
  rw [String.toList_ofList, sS_len, sIxE_eq, sIxE_eq, sS_cps, List.map_take, List.map_drop]
theorem sl_ok : SlR X (slOf X E) := by
  intro pins s σ H v a vl vu lo hi sl Q I ra hsl pl pu ⟨r, g, x, R, hx, hp⟩
  cases x with
  | tup xs =>
    obtain ⟨p, vs, rfl, h1, h2⟩ := hx.tup_inv
    have hp : Post X.K X.mg X.w E r H (newT (cutL xs (sIxE xs.length 0 lo) (sIxE xs.length xs.length hi)) g) Q := hp
    have hc := cut_vals h2 lo hi
    unfold newT at hp
    split at hp
    · refine sl_tupA pins s σ H _ a vl vu lo hi sl Q I ra hsl pl pu ⟨p, vs, rfl, h1, fun hw => ?_, fun _ t ht => Post.newTup hp R hc ht⟩
      have e : cutL xs (sIxE xs.length 0 lo) (sIxE xs.length xs.length hi) = xs := by
        rw [sIxE_eq, sIxE_eq, ← h2.length, hw.1, hw.2]
        unfold cutL
        rw [h2.length]
        simp
      rw [e] at hp
      exact hp.here R hx
    · exact hp.elim
  | ref i =>
    unfold getCut at hp
    dsimp only at hp
    split at hp
    · rename_i xs hl
      obtain ⟨p, vs, _, rfl, h1, h2⟩ := R.lst hl hx
      have hc := cut_vals h2 lo hi
      unfold newL at hp
      split at hp
      · exact sl_list pins s σ H _ a vl vu lo hi sl Q I ra hsl pl pu ⟨p, vs, rfl, .of h1, fun t ht => Post.newLst hp R hc ht⟩
      · exact hp.elim
    · exact hp.elim
  | str z =>
    unfold getCut at hp
    dsimp only at hp
    split at hp
    · rename_i hz
      obtain rfl : v = V.str (sS z) := hx.str_inv
      refine sl_str pins s σ H _ a vl vu lo hi sl Q I ra hsl pl pu ⟨sS z, rfl, by rw [sS_len]; exact hz, ?_⟩
      rw [← cutT_eq]
      exact hp.here R VR.str
    · exact hp.elim
  | _ => exact hp.elim
/-! ### isinstance -/
theorem base_ty {T t : String} (h : T ∈ ["NoneType", "bool", "int", "str", "tuple", "list"]) (h2 : t ∈ ["int", "bool", "str", "tuple", "list", "dict"]) {K : PySem.W.Frag} :
    PySem.W.kitOne K (.type T) (.type t) = some (decide (T = t) || (T == "bool" && t == "int")) := by
  simp only [List.mem_cons, List.not_mem_nil, or_false] at h h2
  rcases h with rfl | rfl | rfl | rfl | rfl | rfl <;> rcases h2 with rfl | rfl | rfl | rfl | rfl | rfl <;> exact kit_ty (by decide +kernel)
end
section
variable {X : L2.Cx} {ck : Arguments → List Stmt → Scope → FDef → Bool} {c : Cx} {N : List String} {sc : Scope} {E : XK} {ES : L2.St → XK} {r : List Addr} {H : Hp} {g : G} {Q : VK} {pins : List (Addr × Obj)} {s : Shared} {σ : L2.St} {v w : V} {a b : Value} {x y : D}
theorem sqT_tyX {K : PySem.W.Frag} {H : Hp} {a : Addr} {vs : List V} (h : SqT K H a vs) : TyX K H (.ref a) (.type "tuple") := by
  rcases h with (h | ⟨o, h⟩) | ⟨o, its, n, h, c, _⟩
  · exact .base (.tup h)
  · exact .fTuple h
  · exact .kTuple h c
def tyOf : D → String
  | .non => "NoneType"
  | .bl _ => "bool"
  | .int _ => "int"
  | .str _ => "str"
  | .tup _ => "tuple"
  | .ref _ => "list"
  | .fro _ => "list"
theorem tyOf_mem (d : D) : tyOf d ∈ ["NoneType", "bool", "int", "str", "tuple", "list"] := by cases d <;> simp [tyOf]
/-- the type of what is no instance -/
theorem ty_data (R : Rel X.K X.mg X.w r g H) (hx : VR X.K r H x v) (h : ∀ i, x = .ref i → ∃ xs, g[i]? = some (.lst xs)) : TyX X.K H v (.type (tyOf x)) := by
  cases x with
  | non => rw [hx.non_inv]; exact .base .non
  | bl k => rw [hx.bl_inv]; exact .base (.bl k)
  | int k => rw [hx.int_inv]; exact .base (.int k)
  | str k => rw [hx.str_inv]; exact .base (.str _)
  | tup xs =>
    obtain ⟨p, vs, rfl, h1, _⟩ := hx.tup_inv
    exact sqT_tyX h1
  | ref i =>
    obtain ⟨xs, h1⟩ := h i rfl
    obtain ⟨p, e, rfl⟩ := hx.ref_inv
    obtain ⟨vs, h2, _⟩ := R.at_ i p _ e h1
    exact .base (.lst h2)
  | fro xs =>
    obtain ⟨p, vs, rfl, h1, _⟩ := hx.fro_inv
    rcases h1 with ⟨o, h1⟩ | ⟨o, its, n, h1, c, _⟩
    · exact .base (.frz h1)
    · exact .kList h1 c
/-- a class by its name -/
def ClsN (X : L2.Cx) (P : Pg) (t : String) (u : Value) : Prop := (P.cls t = false ∧ t ∈ ["int", "bool", "str", "tuple", "list", "dict"] ∧ u = .type t) ∨ (P.cls t = true ∧ ∃ C, X.mg (sS t) = some (.ref C) ∧ u = .ref C)
theorem isi_ty (gf : GF X.K X.mg X.w ck c.P) (R : Rel X.K X.mg X.w r g H) (hx : VR X.K r H x v) {t : String} {z : Bool} (hz : isInst c g x t = some z) {u : Value} (hu : ClsN X c.P t u) : ∃ T, TyX X.K H v T ∧ PySem.W.kitOne X.K T u = some z := by
  unfold isInst at hz
  rcases hu with ⟨hc, ht, rfl⟩ | ⟨hc, C, hC, rfl⟩
  · rw [hc] at hz
    simp only [Bool.false_eq_true, if_false] at hz
    unfold isType at hz
    have ht2 : (["int", "bool", "str", "tuple", "list", "dict"].contains t) = true := List.contains_iff_mem.mpr ht
    rw [if_pos ht2] at hz
    have fin : ∀ (hl : ∀ i, x = .ref i → ∃ xs, g[i]? = some (.lst xs)), (decide (tyOf x = t) || (tyOf x == "bool" && t == "int")) = z → ∃ T, TyX X.K H v T ∧ PySem.W.kitOne X.K T (.type t) = some z := fun hl e =>
      ⟨_, ty_data R hx hl, by rw [base_ty (tyOf_mem x) ht, e]⟩
    have bq : ∀ a b : String, (a == b) = decide (a = b) := fun a b => by by_cases q : a = b <;> simp [q]
    have bc : ∀ a b : String, decide (a = b) = (b == a) := fun a b => by rw [bq]; by_cases q : a = b <;> simp [q, eq_comm]
    cases x with
    | non =>
      cases hz
      refine fin (fun i e => by cases e) ?_
      simp only [List.mem_cons, List.not_mem_nil, or_false] at ht
      rcases ht with rfl | rfl | rfl | rfl | rfl | rfl <;> decide
    | bl k =>
      cases hz
      refine fin (fun i e => by cases e) ?_
      simp only [List.mem_cons, List.not_mem_nil, or_false] at ht
      rcases ht with rfl | rfl | rfl | rfl | rfl | rfl <;> rfl
    | int k =>
      cases hz
      refine fin (fun i e => by cases e) ?_
      simp only [List.mem_cons, List.not_mem_nil, or_false] at ht
      rcases ht with rfl | rfl | rfl | rfl | rfl | rfl <;> rfl
    | str k =>
      cases hz
      refine fin (fun i e => by cases e) ?_
      simp only [List.mem_cons, List.not_mem_nil, or_false] at ht
      rcases ht with rfl | rfl | rfl | rfl | rfl | rfl <;> rfl
    | tup k =>
      cases hz
      refine fin (fun i e => by cases e) ?_
      simp only [List.mem_cons, List.not_mem_nil, or_false] at ht
      rcases ht with rfl | rfl | rfl | rfl | rfl | rfl <;> rfl
    | fro k => cases hz
    | ref i =>
      dsimp only at hz
      cases ho : g[i]? with
      | none => rw [ho] at hz; cases hz
      | some o =>
        rw [ho] at hz
        cases o with
        | lst xs =>
          cases hz
          refine fin (fun j e => by cases e; exact ⟨xs, ho⟩) ?_
          simp only [List.mem_cons, List.not_mem_nil, or_false] at ht
          rcases ht with rfl | rfl | rfl | rfl | rfl | rfl <;> rfl
        | _ => cases hz
  · rw [hc] at hz
    simp only [if_true] at hz
    obtain ⟨C', hC', ca⟩ := gf.cls t hc
    rw [hC] at hC'
    cases hC'
    have dat : ∀ (hl : ∀ i, x = .ref i → ∃ xs, g[i]? = some (.lst xs)), false = z → ∃ T, TyX X.K H v T ∧ PySem.W.kitOne X.K T (.ref C) = some z := fun hl e => by
      refine ⟨_, ty_data R hx hl, ?_⟩
      rw [← e]
      refine ca.ty _ ?_
      exact List.mem_append_left ["dict"] (tyOf_mem x)
    cases x with
    | ref i =>
      dsimp only at hz
      cases ho : g[i]? with
      | none => rw [ho] at hz; cases hz
      | some o =>
        rw [ho] at hz
        cases o with
        | ins k fs =>
          dsimp only at hz
          split at hz
          · rename_i hk
            cases hz
            obtain ⟨p, e, rfl⟩ := hx.ref_inv
            obtain ⟨C2, dx, ps, h1, h2, h3⟩ := R.at_ i p _ e ho
            obtain ⟨C3, h4, ca3⟩ := gf.cls k hk
            rw [h1] at h4
            cases h4
            exact ⟨.ref C2, .base (.ins h2 ca3.cl ca3.o1 ca3.o2 ca3.o3 ca3.o4), gf.ins k t C2 C hk hc h1 hC⟩
          · cases hz
        | _ => cases hz
    | _ => cases hz; exact dat (fun i e => by cases e) rfl
end
/-! ### built-ins -/
def crOf (X : L2.Cx) (E : XK) (f : List D → G → R D) : List V → Hp → VK → Prop := fun vs H Q => ∃ (r : List Addr) (g : G) (ds : List D), Rel X.K X.mg X.w r g H ∧ VRs X.K r H ds vs ∧ Post X.K X.mg X.w E r H (f ds g) Q
theorem VRs.one {K : PySem.W.Frag} {r : List Addr} {H : Hp} {d : D} {vs : List V} (h : VRs K r H [d] vs) : ∃ v, vs = [v] ∧ VR K r H d v := by
  obtain ⟨v, q, rfl, h1, h2⟩ := h.inv
  rw [VRs.nil_iff.mp h2]
  exact ⟨v, rfl, h1⟩
theorem VRs.two {K : PySem.W.Frag} {r : List Addr} {H : Hp} {d e : D} {vs : List V} (h : VRs K r H [d, e] vs) : ∃ v w, vs = [v, w] ∧ VR K r H d v ∧ VR K r H e w := by
  obtain ⟨v, q, rfl, h1, h2⟩ := h.inv
  obtain ⟨w, rfl, h3⟩ := h2.one
  exact ⟨v, w, rfl, h1, h3⟩
theorem ints_vals {K : PySem.W.Frag} {r : List Addr} {H : Hp} : ∀ {ds : List D} {is : List Int} {vs : List V}, Uk.intsD ds = some is → VRs K r H ds vs → vs = is.map V.int
  | [], is, vs, h, hv => by cases h; rw [VRs.nil_iff.mp hv]; rfl
  | d :: ds, is, vs, h, hv => by
    obtain ⟨v, q, rfl, h1, h2⟩ := hv.inv
    cases d with
    | int i =>
      have h : (Uk.intsD ds).map (i :: ·) = some is := h
      obtain ⟨js, e1, e2⟩ := Option.map_eq_some_iff.mp h
      rw [h1.int_inv, ints_vals e1 h2, ← e2]
      rfl
    | _ => cases h
theorem bools_vals {K : PySem.W.Frag} {r : List Addr} {H : Hp} : ∀ {ds : List D} {is : List Bool} {vs : List V}, Uk.bools ds = some is → VRs K r H ds vs → vs = is.map V.bl
  | [], is, vs, h, hv => by cases h; rw [VRs.nil_iff.mp hv]; rfl
  | d :: ds, is, vs, h, hv => by
    obtain ⟨v, q, rfl, h1, h2⟩ := hv.inv
    cases d with
    | bl i =>
      have h : (Uk.bools ds).map (i :: ·) = some is := h
      obtain ⟨js, e1, e2⟩ := Option.map_eq_some_iff.mp h
      rw [h1.bl_inv, bools_vals e1 h2, ← e2]
      rfl
    | _ => cases h
theorem maxI_cons (i j : Int) (l : List Int) : maxI (i :: j :: l) = max i (maxI (j :: l)) := rfl
theorem minI_cons (i j : Int) (l : List Int) : minI (i :: j :: l) = min i (minI (j :: l)) := rfl
theorem maxI_max : ∀ (l : List Int), l ≠ [] → maxI l ∈ l ∧ ∀ y ∈ l, y ≤ maxI l
  | [], h => absurd rfl h
  | [i], _ => by simp [maxI]
  | i :: j :: l, _ => by
    have ih := maxI_max (j :: l) (by simp)
    rw [maxI_cons]
    refine ⟨?_, fun y hy => ?_⟩
    · by_cases h : i ≤ maxI (j :: l)
      · rw [Int.max_eq_right h]; exact List.mem_cons_of_mem _ ih.1
      · rw [Int.max_eq_left (by omega)]; exact List.mem_cons_self
    · rcases List.mem_cons.mp hy with rfl | hy
      · omega
      · have := ih.2 y hy; omega
theorem minI_min : ∀ (l : List Int), l ≠ [] → minI l ∈ l ∧ ∀ y ∈ l, minI l ≤ y
  | [], h => absurd rfl h
  | [i], _ => by simp [minI]
  | i :: j :: l, _ => by
    have ih := minI_min (j :: l) (by simp)
    rw [minI_cons]
    refine ⟨?_, fun y hy => ?_⟩
    · by_cases h : i ≤ minI (j :: l)
      · rw [Int.min_eq_left h]; exact List.mem_cons_self
      · rw [Int.min_eq_right (by omega)]; exact List.mem_cons_of_mem _ ih.1
    · rcases List.mem_cons.mp hy with rfl | hy
      · omega
      · have := ih.2 y hy; omega
theorem noX_post {K : PySem.W.Frag} {mg : Str → Option Value} {wd : World} {E E' : XK} {r : List Addr} {H : Hp} {m : R D} {Q : VK} {α : Type} {k : D → G → Uk.R D} (h : Post K mg wd E r H ((noX m).bind k) Q) : ∃ d g, m = .ok d g ∧ Post K mg wd E r H (k d g) Q := by
  cases m with
  | ok d g => exact ⟨d, g, rfl, h⟩
  | exc _ _ => exact h.elim
  | bad => exact h.elim
section
variable {X : L2.Cx} {ck : Arguments → List Stmt → Scope → FDef → Bool} {c : Cx} {N : List String} {sc : Scope} {E : XK} {ES : L2.St → XK} {r : List Addr} {H : Hp} {g : G} {Q : VK} {pins : List (Addr × Obj)} {s : Shared} {σ : L2.St} {v w : V} {a b : Value} {x y : D}
/-- a call of a def one level below, no exception -/
theorem run1 (O : XOk X ck c N sc ES) {k f : String} {fd : FDef} {ad : Addr} {dt : FuncData} (hf : c.P.fn k f = some fd) (at_ : FnAt X.K ck fd ad dt) {ds : List D} {vs : List V} {us : List Value} (I : Inv X pins σ H s) (R : Rel X.K X.mg X.w r g H) (hd : VRs X.K r H ds vs) (ru : Vals vs us)
    {d : D} {g' : G} (hc : c.call1 k f ds g = .ok d g') (hl : ds.length = fd.ps.length) {A : Around} (hA : A = X.A ∨ A = X.A.in1) {E' : Value → Shared → Prop} {Qf : Value → Shared → Prop}
    (fin : ∀ u s1 r1 H1 v1, Inv X pins σ H1 s1 → Ext r H r1 H1 → Rel X.K X.mg X.w r1 g' H1 → VR X.K r1 H1 d v1 → RelV v1 u → Qf u s1) : wpAny (model X.prog X.w) A (PySem.call (.ref ad) us) Qf E' s := by
  obtain ⟨n, hr, _, hc1⟩ := O.room
  rcases hc1 with z | ⟨m, hm, F⟩
  · rw [z] at hc; cases hc
  · have Fk := F k f fd ad dt hf at_
    subst hm
    have hrA : Room m A := by
      rcases hA with rfl | rfl
      · exact hr.mono (Nat.le_succ m)
      · exact hr.in1
    have hfr : Env0 X.prog X.w X.K X.mg X.base A X.stack s H := by
      rcases hA with rfl | rfl
      · exact I.env0
      · exact I.env0.in1
    have hsp : SpOf X.K X.mg X.w fd.ps.length (c.call1 k f) vs H (fun v H' => ∃ r1, Ext r H r1 H' ∧ Rel X.K X.mg X.w r1 g' H' ∧ VR X.K r1 H' d v) E0 := by
      refine ⟨by rw [hd.length, hl], r, g, ds, R, hd, ?_⟩
      rw [hc]
      exact fun r' v H' x R' q => ⟨r', x, R', q⟩
    have hl2 : us.length = (fd.ps.map sS).length := by rw [← ru.length, hd.length, List.length_map, hl]
    refine wpAny_call (codeAny_mono (Fk.run A X.stack s H ⟨us, []⟩ us vs _ E0 hrA hfr (by
      have := at_.bi s us I.kIn (by simpa using hl2)
      simpa using this) ru hsp) fun r s' hq => ?_)
    cases r with
    | error e => exact False.elim (passL (X := X.nox) pins σ H s e s' (I.wish _) hq)
    | ok fl =>
      cases fl with
      | ret u =>
        obtain ⟨v1, H1, I1, rv, r1, x1, R1, q1⟩ := I.after hq
        exact fin u s' r1 H1 v1 I1 x1 R1 q1 rv
      | next => exact False.elim hq
      | brk => exact False.elim hq
      | cont => exact False.elim hq
theorem cr_lenD (O : XOk X ck c N sc ES) : CallR X (.builtin "len") (crOf X E (builtin c .len)) := by
  intro pins s σ H vs us Q I ru ⟨r, g, ds, R, hd, hp⟩
  cases ds with
  | nil => exact hp.elim
  | cons x l =>
    cases l with
    | cons _ _ => exact hp.elim
    | nil =>
      obtain ⟨v, rfl, hx⟩ := hd.one
      have hp : Post X.K X.mg X.w E r H (lenOf c x g) Q := hp
      cases x with
      | str z =>
        unfold lenOf at hp
        dsimp only at hp
        split at hp
        · rename_i hl
          refine call_len_str pins s σ H _ us Q I ru ⟨sS z, by rw [hx.str_inv], by rw [sS_len, ← line_eq]; exact hl, ?_⟩
          rw [sS_len]
          exact Post.here (d := .int z.length) hp R .int
        · exact hp.elim
      | tup xs =>
        obtain ⟨p, ws, rfl, h1, h2⟩ := hx.tup_inv
        refine call_len_seq pins s σ H _ us Q I ru ⟨p, ws, rfl, .inr h1, ?_⟩
        rw [h2.length]
        exact Post.here (d := .int xs.length) hp R .int
      | ref i =>
        obtain ⟨p, e, rfl⟩ := hx.ref_inv
        obtain ⟨o, ho, oo⟩ := R.get e
        unfold lenOf at hp
        dsimp only at hp
        rw [ho] at hp
        cases o with
        | lst xs =>
          obtain ⟨ws, h1, h2⟩ := oo
          refine call_len_seq pins s σ H _ us Q I ru ⟨p, ws, rfl, .inl (.of h1), ?_⟩
          rw [h2.length]
          exact Post.here (d := .int xs.length) hp R .int
        | dK kvs =>
          obtain ⟨ps, h1, h2⟩ := oo
          obtain ⟨u, rfl, ru2⟩ := vals1 ru
          obtain rfl : u = Value.ref p := ru2
          refine d_len I (.inl h1) fun t s' I' => ⟨.int kvs.length, H, I', ⟨t, ?_⟩, Post.here (d := .int kvs.length) hp R .int⟩
          rw [h2.length]
        | dT kvs =>
          obtain ⟨u, rfl, ru2⟩ := vals1 ru
          obtain rfl : u = Value.ref p := ru2
          exact t_len I (.of (g := g) oo rfl) fun t s' I' => ⟨.int kvs.length, H, I', ⟨t, rfl⟩, Post.here (d := .int kvs.length) hp R .int⟩
        | lk kvs =>
          obtain ⟨u, rfl, ru2⟩ := vals1 ru
          obtain rfl : u = Value.ref p := ru2
          exact t_len I (.of (g := g) oo rfl) fun t s' I' => ⟨.int kvs.length, H, I', ⟨t, rfl⟩, Post.here (d := .int kvs.length) hp R .int⟩
        | ins k fs =>
          dsimp only at hp
          split at hp
          · rename_i hk
            rw [Bool.and_eq_true, Bool.not_eq_true'] at hk
            obtain ⟨d, g', hc, hp⟩ := noX_post (E' := E) (α := Unit) hp
            obtain ⟨fd, hfd, hl⟩ := O.ar1 k "__len__" [.ref i] g (by rw [hc]; exact fun z => by cases z)
            obtain ⟨C, dx, ps, h0, h1, h2⟩ := oo
            obtain ⟨fa, dt, M, at_⟩ := O.gf.met k "__len__" fd C hk.1 hfd hk.2 h0
            obtain ⟨mA, J, _⟩ := ins_get I.hok h1
            obtain ⟨od, J, _⟩ := J.look
            obtain ⟨m, F⟩ := I.fr
            obtain ⟨u, rfl, ru2⟩ := vals1 ru
            have ru2 : u = Value.ref p := ru2
            subst ru2
            refine PySem.W.len_K F I.ok.mod.kin J M.at_ M.fn ?_
            refine run1 O hfd at_ I R (ds := [.ref i]) (vs := [.ref p]) (us := [.ref p]) (.cons (.ref e) (VRs.nil_iff.mpr rfl)) (.cons rfl .nil) hc (by simpa using hl) (.inr rfl) fun u s1 r1 H1 v1 I1 x1 R1 q1 rv => ?_
            cases d with
            | int n =>
              dsimp only at hp
              split at hp
              · rename_i hn
                rw [q1.int_inv] at rv
                obtain ⟨t, rfl⟩ := rv
                have h63 := line63
                have hb : n < 2 ^ 63 := by
                  have := hn.2
                  rw [line_eq] at this
                  omega
                exact ⟨⟨hn.1, hb⟩, .int n, H1, I1.tok _, ⟨_, rfl⟩, Post.here (hp.ext x1) R1 .int⟩
              · exact hp.elim
            | _ => exact hp.elim
          · exact hp.elim
      | _ => exact hp.elim
theorem cr_absD : CallR X (.builtin "abs") (crOf X E (builtin c .abs)) := by
  intro pins s σ H vs us Q I ru ⟨r, g, ds, R, hd, hp⟩
  cases ds with
  | nil => exact hp.elim
  | cons x l =>
    cases l with
    | cons _ _ => cases x <;> exact hp.elim
    | nil =>
      obtain ⟨v, rfl, hx⟩ := hd.one
      cases x with
      | int i => exact call_abs pins s σ H _ us Q I ru ⟨i, by rw [hx.int_inv], Post.here (d := .int (if i < 0 then -i else i)) hp R .int⟩
      | _ => exact hp.elim
theorem digT_is {z : String} {n : Nat} (h : digT z = some n) : z = toString ((n : Nat) : Int) ∧ n < 10 := by
  have h1 := List.find?_some h
  have h2 := List.mem_of_find?_eq_some h
  exact ⟨beq_iff_eq.mp h1, List.mem_range.mp h2⟩
theorem cr_intD : CallR X (.type "int") (crOf X E (builtin c .int)) := by
  intro pins s σ H vs us Q I ru ⟨r, g, ds, R, hd, hp⟩
  cases ds with
  | nil => exact hp.elim
  | cons x l =>
    cases l with
    | cons _ _ => cases x <;> exact hp.elim
    | nil =>
      obtain ⟨v, rfl, hx⟩ := hd.one
      cases x with
      | int i => exact call_int1 pins s σ H _ us Q I ru (.inl ⟨i, by rw [hx.int_inv], Post.here (d := .int i) hp R .int⟩)
      | bl i => exact call_int1 pins s σ H _ us Q I ru (.inr ⟨i, by rw [hx.bl_inv], Post.here (d := .int (if i then 1 else 0)) hp R .int⟩)
      | str z =>
        have hp2 : Post X.K X.mg X.w E r H (orElse (digT z) fun n => .ok (.int (n : Int)) g) Q := hp
        cases hd : digT z with
        | none => rw [hd] at hp2; exact hp2.elim
        | some n =>
          rw [hd] at hp2
          obtain ⟨rfl, hn⟩ := digT_is hd
          refine call_int_str pins s σ H _ us Q I ru ⟨sS (toString ((n : Nat) : Int)), n, by rw [hx.str_inv], TL.int_num (by rw [TL.numL_lt hn]; simp), ?_, Post.here (d := .int n) hp2 R .int⟩
          have := TL.numL_lt hn
          rw [TL.len_tl, TL.tl_num, this]
          simp
      | _ => exact hp.elim
theorem cr_strD : CallR X (.type "str") (crOf X E (builtin c .str)) := by
  intro pins s σ H vs us Q I ru ⟨r, g, ds, R, hd, hp⟩
  cases ds with
  | nil => exact hp.elim
  | cons x l =>
    cases l with
    | cons _ _ => cases x <;> exact hp.elim
    | nil =>
      obtain ⟨v, rfl, hx⟩ := hd.one
      cases x with
      | int i =>
        have hp : Post X.K X.mg X.w E r H (if i.natAbs < 1000000 then .ok (.str (toString i)) g else .bad) Q := hp
        split at hp
        · rename_i hi
          refine call_str_int pins s σ H _ us Q I ru ⟨i, by rw [hx.int_inv], ?_, Post.here (d := .str (toString i)) hp R VR.str⟩
          by_cases h0 : i.natAbs = 0
          · rw [h0]; decide
          · have := (Nat.log2_lt h0 (k := 20)).mpr (by omega)
            omega
        · exact hp.elim
      | _ => exact hp.elim
theorem cr_listD (hcm : X.calm = true) : CallR X (.type "list") (crOf X E (builtin c .list)) := by
  intro pins s σ H vs us Q I ru ⟨r, g, ds, R, hd, hp⟩
  cases ds with
  | nil => exact hp.elim
  | cons x l =>
    cases l with
    | cons _ _ => cases x <;> exact hp.elim
    | nil =>
      obtain ⟨v, rfl, hx⟩ := hd.one
      cases x with
      | tup xs =>
        obtain ⟨p, ws, rfl, h1, h2⟩ := hx.tup_inv
        have hp : Post X.K X.mg X.w E r H (newL xs g) Q := hp
        unfold newL at hp
        split at hp
        · exact call_list_of pins s σ H _ us Q I ru ⟨p, ws, rfl, .inr h1, fun t ht => Post.newLst hp R h2 ht⟩
        · exact hp.elim
      | ref i =>
        have hl0 : (∃ kvs, g[i]? = some (.dT kvs)) ∨ builtin c .list [.ref i] g = orElse (lsOf g i) fun xs => newL xs g := by
          show _ ∨ (match g[i]? with
            | some (.dT kvs) => newL (kvs.map fun p : D × D => p.1) g
            | _ => orElse (lsOf g i) fun xs => newL xs g) = _
          cases hgi : g[i]? with
          | none => exact .inr rfl
          | some o =>
            cases o with
            | dT kvs => exact .inl ⟨kvs, rfl⟩
            | _ => exact .inr rfl
        rcases hl0 with ⟨kvs, hgi⟩ | hl0
        · have hp : Post X.K X.mg X.w E r H (match g[i]? with
            | some (.dT kvs) => newL (kvs.map fun p : D × D => p.1) g
            | _ => orElse (lsOf g i) fun xs => newL xs g) Q := hp
          rw [hgi] at hp
          have hp : Post X.K X.mg X.w E r H (newL (kvs.map (·.1)) g) Q := hp
          obtain ⟨p, e, rfl⟩ := hx.ref_inv
          obtain ⟨u, rfl, ru2⟩ := vals1 ru
          obtain rfl : u = Value.ref p := ru2
          unfold newL at hp
          split at hp
          · exact t_list (I.ok.hd hcm) I (.of (g := g) (R.at_ i p _ e hgi) rfl) fun t ws s' ht q I' => ⟨.ref t, _, I', rfl, Post.newLst hp R q ht⟩
          · exact hp.elim
        · have hp : Post X.K X.mg X.w E r H (builtin c .list [.ref i] g) Q := hp
          rw [hl0] at hp
          cases hl : lsOf g i with
          | none => rw [hl] at hp; exact hp.elim
          | some xs =>
            rw [hl] at hp
            have hp : Post X.K X.mg X.w E r H (newL xs g) Q := hp
            obtain ⟨p, ws, _, rfl, h1, h2⟩ := R.lst hl hx
            unfold newL at hp
            split at hp
            · exact call_list_of pins s σ H _ us Q I ru ⟨p, ws, rfl, .inl (.of h1), fun t ht => Post.newLst hp R h2 ht⟩
            · exact hp.elim
      | _ => exact hp.elim
theorem cr_tupleD : CallR X (.type "tuple") (crOf X E (builtin c .tuple)) := by
  intro pins s σ H vs us Q I ru ⟨r, g, ds, R, hd, hp⟩
  cases ds with
  | nil => exact hp.elim
  | cons x l =>
    cases l with
    | cons _ _ => cases x <;> exact hp.elim
    | nil =>
      obtain ⟨v, rfl, hx⟩ := hd.one
      cases x with
      | tup xs =>
        obtain ⟨p, ws, rfl, h1, h2⟩ := hx.tup_inv
        exact call_tuple_of pins s σ H _ us Q I ru ⟨p, ws, rfl, .inr ⟨h1, Post.here (d := .tup xs) hp R hx⟩⟩
      | ref i =>
        have hp : Post X.K X.mg X.w E r H (orElse (lsOf g i) fun xs => newT xs g) Q := hp
        cases hl : lsOf g i with
        | none => rw [hl] at hp; exact hp.elim
        | some xs =>
          rw [hl] at hp
          have hp : Post X.K X.mg X.w E r H (newT xs g) Q := hp
          obtain ⟨p, ws, _, rfl, h1, h2⟩ := R.lst hl hx
          unfold newT at hp
          split at hp
          · exact call_tuple_of pins s σ H _ us Q I ru ⟨p, ws, rfl, .inl ⟨.of h1, fun t ht => Post.newTup hp R h2 ht⟩⟩
          · exact hp.elim
      | _ => exact hp.elim
theorem all_of {f : List Bool → Bool} {ds : List D} {vs : List V} (R : Rel X.K X.mg X.w r g H) (hd : VRs X.K r H ds vs) (hp : Post X.K X.mg X.w E r H (allD ds g f) Q) : ∃ p bs, vs = [.ref p] ∧ SqL X.K H p (bs.map V.bl) ∧ Q (.bl (f bs)) H := by
  unfold allD at hp
  split at hp
  · rename_i a
    obtain ⟨v, rfl, hx⟩ := hd.one
    cases hl : lsOf g a with
    | none => rw [hl] at hp; exact hp.elim
    | some xs =>
      rw [hl] at hp
      have hp : Post X.K X.mg X.w E r H (orElse (Uk.bools xs) fun bs => .ok (.bl (f bs)) g) Q := hp
      cases hb : Uk.bools xs with
      | none => rw [hb] at hp; exact hp.elim
      | some bs =>
        rw [hb] at hp
        obtain ⟨p, ws, _, rfl, h1, h2⟩ := R.lst hl hx
        rw [bools_vals hb h2] at h1
        exact ⟨p, bs, rfl, .of h1, Post.here (d := .bl (f bs)) hp R .bl⟩
  · exact hp.elim
theorem cr_allD (hc : X.calm = true) : CallR X (.builtin "all") (crOf X E (builtin c .all)) := fun pins s σ H vs us Q I ru ⟨r, g, ds, R, hd, hp⟩ => by
  obtain ⟨p, bs, e, h1, h2⟩ := all_of R hd hp
  exact cr_all hc pins s σ H vs us Q I ru ⟨p, bs, e, h1, h2⟩
theorem cr_anyD (hc : X.calm = true) : CallR X (.builtin "any") (crOf X E (builtin c .any)) := fun pins s σ H vs us Q I ru ⟨r, g, ds, R, hd, hp⟩ => by
  obtain ⟨p, bs, e, h1, h2⟩ := all_of R hd hp
  exact cr_any hc pins s σ H vs us Q I ru ⟨p, bs, e, h1, h2⟩
theorem ext_of {f : List Int → Int} {ds : List D} {vs : List V} (R : Rel X.K X.mg X.w r g H) (hd : VRs X.K r H ds vs) (hp : Post X.K X.mg X.w E r H (extD ds g f) Q) : ∃ p is, vs = [.ref p] ∧ SqL X.K H p (is.map V.int) ∧ is ≠ [] ∧ Q (.int (f is)) H := by
  unfold extD at hp
  split at hp
  · rename_i a
    obtain ⟨v, rfl, hx⟩ := hd.one
    cases hl : lsOf g a with
    | none => rw [hl] at hp; exact hp.elim
    | some xs =>
      rw [hl] at hp
      have hp : Post X.K X.mg X.w E r H (orElse (Uk.intsD xs) fun is => if is.isEmpty then .bad else .ok (.int (f is)) g) Q := hp
      cases hb : Uk.intsD xs with
      | none => rw [hb] at hp; exact hp.elim
      | some is =>
        rw [hb] at hp
        have hp : Post X.K X.mg X.w E r H (if is.isEmpty then .bad else .ok (.int (f is)) g) Q := hp
        split at hp
        · exact hp.elim
        · rename_i he
          obtain ⟨p, ws, _, rfl, h1, h2⟩ := R.lst hl hx
          rw [ints_vals hb h2] at h1
          exact ⟨p, is, rfl, .of h1, by rintro rfl; exact he rfl, Post.here (d := .int (f is)) hp R .int⟩
  · exact hp.elim
theorem max_uniq {l : List Int} {m k : Int} (h1 : m ∈ l ∧ ∀ y ∈ l, y ≤ m) (h2 : k ∈ l ∧ ∀ y ∈ l, y ≤ k) : m = k := by
  have := h1.2 k h2.1
  have := h2.2 m h1.1
  omega
theorem min_uniq {l : List Int} {m k : Int} (h1 : m ∈ l ∧ ∀ y ∈ l, m ≤ y) (h2 : k ∈ l ∧ ∀ y ∈ l, k ≤ y) : m = k := by
  have := h1.2 k h2.1
  have := h2.2 m h1.1
  omega
theorem cr_maxD (hc : X.calm = true) : CallR X (.builtin "max") (crOf X E (builtin c .max)) := fun pins s σ H vs us Q I ru ⟨r, g, ds, R, hd, hp⟩ => by
  unfold builtin at hp
  dsimp only at hp
  split at hp
  · rename_i i j
    obtain ⟨v, w, rfl, h1, h2⟩ := hd.two
    exact call_max2 hc pins s σ H _ us Q I ru ⟨i, j, by rw [h1.int_inv, h2.int_inv], Post.here (d := .int (if j > i then j else i)) hp R .int⟩
  · obtain ⟨p, is, e, h1, h2, h3⟩ := ext_of R hd hp
    refine cr_max hc pins s σ H vs us Q I ru ⟨p, is, e, h1, List.length_pos_iff.mpr h2, fun m hm hle => ?_⟩
    rw [max_uniq ⟨hm, hle⟩ (maxI_max is h2)]
    exact h3
theorem cr_minD (hc : X.calm = true) : CallR X (.builtin "min") (crOf X E (builtin c .min)) := fun pins s σ H vs us Q I ru ⟨r, g, ds, R, hd, hp⟩ => by
  obtain ⟨p, is, e, h1, h2, h3⟩ := ext_of R hd hp
  refine cr_min hc pins s σ H vs us Q I ru ⟨p, is, e, h1, List.length_pos_iff.mpr h2, fun m hm hle => ?_⟩
  rw [min_uniq ⟨hm, hle⟩ (minI_min is h2)]
  exact h3
end
end Uk
end
section
set_option Elab.async false
set_option linter.all false
set_option maxRecDepth 100000
set_option autoImplicit false
set_option maxHeartbeats 1000000
namespace Uk
open PySem PySem.Spec PyProof.Rows L2
/-! ## The syntax around expressions -/
theorem ck_plain {P : Pg} {N : List String} {sc : Scope} {e : Uk.E} {p : PySem.Expr} (h : ckE P N sc e p = true) : plainP p = true := by
  cases p <;> first
    | rfl
    | (exfalso; cases e <;> first | exact Bool.false_ne_true h | (unfold ckE at h; exact Bool.false_ne_true h))
theorem star_plain {p : PySem.Expr} {ps : List PySem.Expr} {env : PySem.Env} (h : plainP p = true) : starEach (p :: ps) env = (false, eval p env) :: starEach ps env := by
  cases p <;> first | rfl | exact absurd h Bool.false_ne_true
theorem ckEs_all {P : Pg} {N : List String} {sc : Scope} : ∀ {es : Uk.Es} {ps : List PySem.Expr}, ckEs P N sc es ps = true → ∀ p ∈ ps, plainP p = true
  | .n, [], _, _, hp => by cases hp
  | .n, _ :: _, h, _, _ => by unfold ckEs at h; exact absurd h Bool.false_ne_true
  | .c _ _, [], h, _, _ => by unfold ckEs at h; exact absurd h Bool.false_ne_true
  | .c e es, q :: ps, h, p, hp => by
    unfold ckEs at h
    rw [Bool.and_eq_true] at h
    rcases List.mem_cons.mp hp with rfl | hp
    · exact ck_plain h.1
    · exact ckEs_all h.2 p hp
theorem star_all {env : PySem.Env} : ∀ {ps : List PySem.Expr}, (∀ p ∈ ps, plainP p = true) → starEach ps env = ps.map fun p => (false, eval p env)
  | [], _ => rfl
  | p :: ps, h => by
    rw [star_plain (h p List.mem_cons_self), star_all fun q hq => h q (List.mem_cons_of_mem _ hq)]
    rfl
theorem back_any {env : PySem.Env} {pos : Pos} {ps : List PySem.Expr} (h : ∀ p ∈ ps, plainP p = true) : (backTo pos (starEach ps env)).any (·.1) = false := by
  rw [star_all h]
  unfold backTo
  rw [List.any_eq_false]
  intro z hz
  rw [List.map_map, List.mem_map] at hz
  obtain ⟨p, _, rfl⟩ := hz
  exact Bool.false_ne_true
theorem back_all {env : PySem.Env} {pos : Pos} {ps : List PySem.Expr} (h : ∀ p ∈ ps, plainP p = true) : (backTo pos (starEach ps env)).all (fun x => !x.1) = true := by
  rw [star_all h]
  unfold backTo
  rw [List.all_eq_true]
  intro z hz
  rw [List.map_map, List.mem_map] at hz
  obtain ⟨p, _, rfl⟩ := hz
  rfl
theorem base_plain {p : PySem.Expr} {f : Str} {env : PySem.Env} {whole : Sem Value} (h : noSup p = true) : attributeBase p f env whole = whole := by
  cases p with
  | Call fn args kws pos =>
    cases fn with
    | Name x q =>
      cases args with
      | nil =>
        cases kws with
        | nil => exact absurd h Bool.false_ne_true
        | cons _ _ => rfl
      | cons _ _ => cases kws <;> rfl
    | _ => cases args <;> cases kws <;> rfl
  | _ => rfl
/-- a method's call: the object, the method, the call -/
theorem methodCall_gen {M : Model} {A : Around} {E : Value → Shared → Prop} {s : Shared} {env : PySem.Env} {o : PySem.Expr} {name : Str} {apos pos : Pos} {args : List PySem.Expr} {Q : Value → Shared → Prop}
    (hb : noSup o = true) (ha : ∀ p ∈ args, plainP p = true) (hl : args.length < 30) (hp : lineB apos pos = true)
    (h : wpAny M A (eval o env) (fun ov s₁ => ∀ pl, wpAny M A (getMethod ov name pl) (fun fx s₂ => wpAny M A (callWith pos fx.1 fx.2 (backTo pos (starEach args env)) []) Q E s₂) E s₁) E s) :
    wpAny M A (eval (.Call (.Attribute o name apos) args [] pos) env) Q E s := by
  rw [arm_eval_Call, base_plain hb]
  refine wpAny_bind (wpAny_mono h (fun ov s₁ h₁ => wpAny_bind (wpAny_standAt ?_)) fun _ _ e => e)
  have hform : methodCallForm (args.length + ([] : List Keyword).length) (backTo pos (starEach args env)) (backToKw pos (keywordEach [] env)) = true := by
    unfold methodCallForm
    rw [back_all ha, Bool.true_and]
    show (true && decide (args.length + 0 + 0 < 30)) = true
    rw [Bool.true_and]
    exact decide_eq_true (by omega)
  have hpos : methodCallPos true o env apos pos = pure pos := by
    have hp : (apos.endLine == pos.line) = true := hp
    unfold methodCallPos
    simp [hp]
  unfold methodCall
  rw [hform]
  refine wpAny_bind (wpAny_holding (wpAny_mono (h₁ _) (fun fx s₂ h₂ => ?_) fun _ _ e => e))
  exact wpAny_bind (wpAny_of_eq hpos h₂)
section
variable {X : L2.Cx} {ck : Arguments → List Stmt → Scope → FDef → Bool} {c : Cx} {N : List String} {sc : Scope} {E : L2.St → XK} {r : List Addr} {H : Hp} {g : G} {Q : VK} {pins : List (Addr × Obj)} {s : Shared} {σ : L2.St} {e : Env}
/-- a call of a def at this level -/
theorem run0 (O : XOk X ck c N sc E) {k f : String} {fd : FDef} {ad : Addr} {dt : FuncData} (hf : c.P.fn k f = some fd) (at_ : FnAt X.K ck fd ad dt) {ds : List D} {vs : List V} {us : List Value} (I : Inv X pins σ H s) (R : Rel X.K X.mg X.w r g H) (hd : VRs X.K r H ds vs) (ru : Vals vs us)
    (hl : ds.length = fd.ps.length) (hp : Post X.K X.mg X.w (E σ) r H (c.call k f ds g) Q) : wpAny (model X.prog X.w) X.A (PySem.call (.ref ad) us) (EP X pins σ Q) X.xe s := by
  obtain ⟨n, hr, F, _⟩ := O.room
  have hsp : SpOf X.K X.mg X.w fd.ps.length (c.call k f) vs H Q (E σ) := ⟨by rw [hd.length, hl], r, g, ds, R, hd, hp⟩
  exact run_fnS (F k f fd ad dt hf at_) hr at_.bi (O.pass σ) I ru hsp
/-- C(..), what comes out told at this frame's slots alone -/
theorem run_mkS {C f : Addr} {fd : FuncData} {ps : List Str} {sp : Sp} {k : Nat} {us : List Value} {vs : List V} {W : XK} (M : Mk X.K C f) (F : FnOk X.prog X.w X.K X.mg X.base (L2.CX X.prog X.w) k f fd ps sp) (hr : Room (k + 1) X.A) (hb : Binds X.K fd ps [])
    (hx : PassesAt (L2.CX X.prog X.w) X σ W) (I : Inv X pins σ H s) (rr : Vals vs us)
    (h : ∀ x dx, H x = none → H dx = none → dx ≠ x → sp (.ref x :: vs) (upd (upd H dx (.own x)) x (.ins C dx [])) (fun v H2 => v = .non ∧ Q (.ref x) H2) W) : wpAny (model X.prog X.w) X.A (PySem.call (.ref C) us) (EP X pins σ Q) X.xe s := by
  generalize hN : s.heap.objs.size = top
  have q0 := h (top + 1) top (I.hok.fresh (by rw [hN]; exact Nat.le_succ _)) (I.hok.fresh (by rw [hN]; exact Nat.le_refl _)) (Nat.ne_of_lt (Nat.lt_succ_self _))
  subst hN
  have J := Inv.made (C := C) I
  have rv : Vals (V.ref (s.heap.objs.size + 1) :: vs) (Value.ref (s.heap.objs.size + 1) :: us) := .cons rfl rr
  have len : (Value.ref (s.heap.objs.size + 1) :: us).length = ps.length := by rw [← rv.length]; exact F.len _ _ _ _ q0
  have bb := hb _ (Value.ref (s.heap.objs.size + 1) :: us) J.kIn (by rw [List.append_nil]; exact len)
  rw [List.append_nil] at bb
  have body := F.run _ X.stack _ _ ⟨Value.ref (s.heap.objs.size + 1) :: us, []⟩ (Value.ref (s.heap.objs.size + 1) :: us) _ _ W (hr.make C us []) (J.env0.make C us []) bb rv q0
  refine wpAny_call (make_map (f := f) I.kIn M.makes M.init (beq_iff_eq.mp M.fn) (codeAny_mono body fun z s' hz => ?_))
  cases z with
  | error e => exact hx pins _ _ e s' J hz
  | ok fl =>
    cases fl with
    | ret u =>
      obtain ⟨v, H', I3, ru, ev, q3⟩ := J.after hz
      subst ev
      exact ⟨ru, V.ref (s.heap.objs.size + 1), H', I3, rfl, q3⟩
    | next => exact False.elim hz
    | brk => exact False.elim hz
    | cont => exact False.elim hz
theorem callWith_go {fv : Value} {first : List Value} {ps : List PySem.Expr} {pos : Pos} {m : Env → G → Uk.R (List D)} (ha : PA X ps (LA X E m)) (hpl : ∀ p ∈ ps, plainP p = true) (hnil : ps = [] → ∀ e g, m e g = .ok [] g) (hk : PySem.W.keepIn X.K fv = true) (I : Inv X pins σ H s) (R : Rel X.K X.mg X.w r g H) (er : ER X.K r H e σ)
    {k : List D → G → Uk.R D} (hp : Post X.K X.mg X.w (E σ) r H ((m e g).bind k) Q) {Qf : Value → Shared → Prop}
    (next : ∀ (us : List Value) (s1 : Shared) (r1 : List Addr) (g1 : G) (H1 : Hp) (ds : List D) (vs : List V), Inv X pins σ H1 s1 → Ext r H r1 H1 → Rel X.K X.mg X.w r1 g1 H1 → ER X.K r1 H1 e σ → VRs X.K r1 H1 ds vs → Vals vs us → Post X.K X.mg X.w (E σ) r1 H1 (k ds g1) Q → wpAny (model X.prog X.w) X.A (PySem.call fv (first ++ us)) Qf X.xe s1) :
    wpAny (model X.prog X.w) X.A (callWith pos fv first (backTo pos (starEach ps X.env)) []) Qf X.xe s := by
  cases ps with
  | nil =>
    rw [hnil rfl] at hp
    exact PySem.W.callWith_K0 I.kIn hk (next [] s r g H [] [] I (.refl r H) R er (VRs.nil_iff.mpr rfl) .nil hp)
  | cons p ps =>
    refine PySem.W.callWith_K (h₀ := X.base) I.ok.mod.kin hk ?_ (star_plain (hpl p List.mem_cons_self)) (back_any fun q hq => hpl q (List.mem_cons_of_mem _ hq))
    exact LA.seq ha pos I R er hp fun us s1 r1 g1 H1 ds vs I1 x R1 e1 hd ru hp1 => ⟨I1.kIn, next us s1 r1 g1 H1 ds vs I1 x R1 e1 hd ru hp1⟩
theorem evs_nil {P : Pg} {es : Uk.Es} (h : ckEs P N sc es [] = true) : es = .n := by
  cases es with
  | n => rfl
  | c _ _ => unfold ckEs at h; exact absurd h Bool.false_ne_true
/-- the class of an instance -/
theorem ins_cls (O : XOk X ck c N sc E) (R : Rel X.K X.mg X.w r g H) {i : Nat} {k : String} {fs : List (String × D)} {p : Addr} (e : r[i]? = some p) (ho : g[i]? = some (.ins k fs)) (hk : c.P.cls k = true) :
    ∃ C dx ps, X.mg (sS k) = some (.ref C) ∧ H p = some (.ins C dx ps) ∧ FRs X.K r H fs ps ∧ ClsAt X.K c.P k C := by
  obtain ⟨C, dx, ps, h0, h1, h2⟩ := R.at_ i p _ e ho
  obtain ⟨C', h3, h4⟩ := O.gf.cls k hk
  rw [h0] at h3
  cases h3
  exact ⟨C, dx, ps, h0, h1, h2, h4⟩
theorem lookF_rel {K : PySem.W.Frag} {f : String} : ∀ {fs : List (String × D)} {ps : List (Str × V)}, FRs K r H fs ps → match lookF f fs with
    | some d => ∃ v, ps.lookup (sS f) = some v ∧ VR K r H d v
    | none => ps.lookup (sS f) = none
  | [], _, .nil => rfl
  | (a, d) :: fs, (b, v) :: ps, .cons h t => by
    obtain ⟨e, hv⟩ := h
    dsimp only at e
    subst e
    unfold lookF
    by_cases h : a = f
    · subst h
      rw [if_pos rfl]
      exact ⟨v, by simp [List.lookup], hv⟩
    · rw [if_neg h]
      have h2 : (sS f == sS a) = false := beq_eq_false_iff_ne.mpr fun z => h (sS_inj z).symm
      have ih := lookF_rel (f := f) t
      rw [List.lookup_cons, h2]
      exact ih
theorem putF_rel {K : PySem.W.Frag} {f : String} {d : D} {v : V} (hv : VR K r H d v) : ∀ {fs : List (String × D)} {ps : List (Str × V)}, FRs K r H fs ps → FRs K r H (Uk.putF f d fs) (L2.putF (sS f) v ps)
  | [], _, .nil => .cons ⟨rfl, hv⟩ .nil
  | (a, d') :: fs, (b, w) :: ps, .cons h t => by
    obtain ⟨e, hw⟩ := h
    dsimp only at e
    subst e
    unfold Uk.putF L2.putF
    by_cases h : a = f
    · subst h
      rw [if_pos rfl, if_pos rfl]
      exact .cons ⟨rfl, hv⟩ t
    · have h2 : ¬ sS a = sS f := fun z => h (sS_inj z)
      rw [if_neg h, if_neg h2]
      exact .cons ⟨rfl, hw⟩ (putF_rel hv t)
/-- o.f -/
theorem pe_attD (O : XOk X ck c N sc E) {p : PySem.Expr} {f : String} {pos : Pos} {m : Env → G → Uk.R D} (hb : noSup p = true) (ha : PE X p (LE X E m)) : PE X (.Attribute p (sS f) pos) (LE X E fun e g => (m e g).bind fun x g => attr c x f g) := by
  refine ⟨fun pins s σ H Q I ⟨r, g, e, R, er, hp⟩ => ?_⟩
  refine attr_of (base_plain hb) (LE.seq ha I R er hp fun u s1 r1 g1 H1 d v I1 x R1 er1 hv ru hp => ?_)
  cases d with
  | ref i =>
    obtain ⟨a, ea, rfl⟩ := hv.ref_inv
    have ru : u = Value.ref a := ru
    subst ru
    obtain ⟨o, ho, oo⟩ := R1.get ea
    unfold attr at hp
    dsimp only at hp
    rw [ho] at hp
    cases o with
    | ins k fs =>
      dsimp only at hp
      split at hp
      · exact hp.elim
      · rename_i hk
        have hk : c.P.cls k = true := by simpa using hk
        obtain ⟨C, dx, ps, h0, h1, h2, ca⟩ := ins_cls O R1 ea ho hk
        split at hp
        · rename_i hpr
          have hp2 : Post X.K X.mg X.w (E σ) r1 H1 ((noX (c.call1 k f [.ref i] g1)).bind fun d g => .ok d g) Q := by
            have e2 : ((noX (c.call1 k f [.ref i] g1)).bind fun d g => .ok d g) = noX (c.call1 k f [.ref i] g1) := by
              cases noX (c.call1 k f [.ref i] g1) <;> rfl
            rw [e2]
            exact hp
          obtain ⟨d, g', hc, hp3⟩ := noX_post (E' := E σ) (α := Unit) hp2
          obtain ⟨fd, hfd, hl⟩ := O.ar1 k f [.ref i] g1 (by rw [hc]; exact fun z => by cases z)
          obtain ⟨pr, fa, dt, PO, at_⟩ := O.gf.prop k f fd C hk hfd hpr h0
          obtain ⟨n, hr, _, hc1⟩ := O.room
          rcases hc1 with z | ⟨m', hm, F⟩
          · rw [z] at hc; cases hc
          · subst hm
            refine getprop_ok (E := E0) I1 h1 ca.cl PO (F k f fd fa dt hfd at_) hr at_.bi .nil passL ⟨by rw [← hl]; rfl, r1, g1, [.ref i], R1, .cons (.ref ea) (VRs.nil_iff.mpr rfl), ?_⟩
            rw [hc]
            exact hp3
        · rename_i hpr
          split at hp
          · rename_i hf
            have hlk := lookF_rel (f := f) h2
            cases hlo : lookF f fs with
            | none => rw [hlo] at hp; exact hp.elim
            | some d =>
              rw [hlo] at hp hlk
              obtain ⟨w, h3, h4⟩ := hlk
              have hq : Q w H1 := Post.here (d := d) hp R1 h4
              exact getattr_ok I1 h1 ca.cl (ca.fld f hf) h3 fun u s2 I2 ru2 => ⟨w, H1, I2, ru2, hq⟩
          · exact hp.elim
    | lst _ => exact hp.elim
    | dK _ => exact hp.elim
    | dT _ => exact hp.elim
    | lk _ => exact hp.elim
  | _ => exact hp.elim
end
end Uk
end
section
set_option Elab.async false
set_option linter.all false
set_option maxRecDepth 100000
set_option autoImplicit false
set_option maxHeartbeats 2000000
namespace Uk
open PySem PySem.Spec PyProof.Rows L2
/-! ## Texts cut and joined -/
theorem map_inj_beq {α β : Type} [BEq α] [LawfulBEq α] [BEq β] [LawfulBEq β] {f : α → β} (hf : ∀ a b, f a = f b → a = b) (l m : List α) : (l.map f == m.map f) = (l == m) := by
  rw [Bool.eq_iff_iff, beq_iff_eq, beq_iff_eq]
  constructor
  · intro h
    exact List.map_inj_right (fun a b e => hf a b e) |>.mp h
  · intro h
    rw [h]
theorem pre_map {S l : List Char} : TL.pre (S.map Char.toNat) (l.map Char.toNat) = preL S l := by
  unfold TL.pre preL
  rw [List.length_map, ← List.map_take]
  exact map_inj_beq (fun a b e => Char.toNat_inj.mp e) _ _
theorem spl_map (S : List Char) : ∀ (l : List Char) (k : Nat) (acc : List Char), TL.spl (S.map Char.toNat) k (acc.map Char.toNat) (l.map Char.toNat) = (splL S k acc l).map (·.map Char.toNat)
  | [], k, acc => by
    cases k <;> simp [TL.spl, splL]
  | c :: r, 0, acc => by
    have hp : TL.pre (S.map Char.toNat) (c.toNat :: r.map Char.toNat) = preL S (c :: r) := pre_map (S := S) (l := c :: r)
    rw [List.map_cons, TL.spl, splL, hp]
    by_cases h : preL S (c :: r) = true
    · rw [if_pos h, if_pos h, List.length_map]
      have := spl_map S r (S.length - 1) []
      rw [List.map_nil] at this
      rw [this, List.map_cons]
    · rw [if_neg h, if_neg h]
      have := spl_map S r 0 (acc ++ [c])
      rw [List.map_append] at this
      exact this
  | c :: r, k + 1, acc => by
    rw [List.map_cons, TL.spl, splL]
    exact spl_map S r k acc
theorem splT_eq {s b : String} (hb : 0 < b.length) (ha : b.toList.all (fun c => decide (c.toNat < 256)) = true) : (splT s b).map sS = Txt.split (sS s) (sS b) := by
  apply TL.map_tl_inj
  have hne : TL.tl (sS b) ≠ [] := by
    rw [TL.tl_ofString]
    intro z
    rw [List.map_eq_nil_iff] at z
    have : b.length = b.toList.length := (String.length_toList).symm
    rw [z] at this
    rw [this] at hb
    exact absurd hb (by simp)
  have hk : ¬ Builtin.Str.strKind (sS s) < Builtin.Str.strKind (sS b) := TL.kind_ok (by
    rw [← Array.all_toList, sS_cps, List.all_map]
    exact ha)
  rw [TL.split_spl _ _ hne hk, TL.tl_ofString, TL.tl_ofString]
  have := spl_map b.toList s.toList 0 []
  rw [List.map_nil] at this
  rw [this]
  unfold splT
  rw [List.map_map, List.map_map]
  refine List.map_congr_left fun l _ => ?_
  show TL.tl (Str.ofString (String.ofList l)) = l.map Char.toNat
  rw [TL.tl_ofString, String.toList_ofList]
theorem joinL_map (S : List Char) : ∀ ps : List (List Char), TL.joinL (S.map Char.toNat) (ps.map (·.map Char.toNat)) = (joinL' S ps).map Char.toNat
  | [] => rfl
  | [_] => rfl
  | p :: q :: r => by
    have := joinL_map S (q :: r)
    rw [List.map_cons, List.map_cons] at *
    rw [TL.joinL, this, joinL', List.map_append, List.map_append]
theorem joinT_eq (s : String) (ys : List String) : sS (joinT s ys) = Txt.join (sS s) (ys.map sS) := by
  rw [TL.join_eq]
  apply TL.ext_tl
  rw [TL.tl_join, TL.tl_ofString, TL.tl_ofString]
  unfold joinT
  rw [String.toList_ofList, ← joinL_map, List.map_map, List.map_map]
  congr 1
  refine List.map_congr_left fun y _ => ?_
  exact (TL.tl_ofString y).symm
end Uk
end
section
set_option Elab.async false
set_option linter.all false
set_option maxRecDepth 100000
set_option autoImplicit false
set_option maxHeartbeats 1000000
namespace Uk
open PySem PySem.Spec PyProof.Rows L2
section
variable {X : L2.Cx} {ck : Arguments → List Stmt → Scope → FDef → Bool} {c : Cx} {N : List String} {sc : Scope} {E : L2.St → XK} {r : List Addr} {H : Hp} {g : G} {Q : VK} {pins : List (Addr × Obj)} {s : Shared} {σ : L2.St} {e : Env}
/-- an object written over -/
theorem Post.put {d : D} {v : V} {i : Nat} {a : Addr} {o' : O} {ho ho' : HO} (hp : Post X.K X.mg X.w (E σ) r H (.ok d (g.set i o')) Q) (R : Rel X.K X.mg X.w r g H) (hi : r[i]? = some a) (h : H a = some ho) (w : Wr ho) (n : OR X.K X.mg X.w r (upd H a ho') a o') (q : VR X.K r H d v) : Q v (upd H a ho') :=
  hp r _ _ (.put h w) (R.put hi h w n) (VR.mono (.put h w) _ _ q)
theorem lst_put {a : Addr} {vs ws : List V} {xs ys : List D} (h : H a = some (.lst vs)) (q : VRs X.K r H ys ws) : OR X.K X.mg X.w r (upd H a (.lst ws)) a (.lst ys) := ⟨ws, upd_same, VRs.mono (.put h trivial) _ _ q⟩
theorem dropLast_rel {K : PySem.W.Frag} {xs : List D} {vs : List V} (h : VRs K r H xs vs) : VRs K r H xs.dropLast vs.dropLast := by
  rw [List.dropLast_eq_take, List.dropLast_eq_take, h.length]
  exact h.take _
def LM.id : LM → String
  | .append => "list.append"
  | .extend => "list.extend"
  | .pop => "list.pop"
  | .index => "list.index"
  | .insert => "list.insert"
  | .reverse => "list.reverse"
theorem LM.slot {m : String} {q : LM} (h : LM.of m = some q) : Slot "list" (sS m) q.id ∧ typeOf (.builtin q.id) = pure (.type "method_descriptor") := by
  unfold LM.of at h
  split at h
  · rename_i e
    subst e
    cases h
    exact ⟨PySem.F.slot_list_append, PySem.F.type_list_append⟩
  · split at h
    · rename_i e
      subst e
      cases h
      exact ⟨PySem.F.slot_list_extend, PySem.F.type_list_extend⟩
    · split at h
      · rename_i e
        subst e
        cases h
        exact ⟨PySem.F.slot_list_pop, PySem.F.type_list_pop⟩
      · split at h
        · rename_i e
          subst e
          cases h
          exact ⟨PySem.F.slot_list_index, PySem.F.type_list_index⟩
        · split at h
          · rename_i e
            subst e
            cases h
            exact ⟨PySem.F.slot_list_insert, PySem.F.type_list_insert⟩
          · split at h
            · rename_i e
              subst e
              cases h
              exact ⟨PySem.F.slot_list_reverse, PySem.F.type_list_reverse⟩
            · cases h
theorem ixD_some {y : D} (hy : y.dep ≤ 60) : ∀ {xs : List D} {k j : Nat}, D.deps xs ≤ 60 → ixD y xs k = some j → ∃ m, j = k + m ∧ (∃ z, xs[m]? = some z ∧ PyData.eqv (pyD z) (pyD y) = true) ∧ ∀ m', m' < m → ∀ z, xs[m']? = some z → PyData.eqv (pyD z) (pyD y) = false
  | [], _, _, _, h => by cases h
  | x :: xs, k, j, hd, h => by
    unfold D.deps at hd
    unfold ixD at h
    have e := pyD_eqv x y (by omega) hy
    split at h
    · rename_i hx
      cases h
      exact ⟨0, rfl, ⟨x, rfl, by rw [e]; exact hx⟩, fun m' hm' => absurd hm' (Nat.not_lt_zero _)⟩
    · rename_i hx
      obtain ⟨m, e1, ⟨z, e2, e3⟩, e4⟩ := ixD_some hy (by omega) h
      refine ⟨m + 1, by omega, ⟨z, by simpa using e2, e3⟩, fun m' hm' z' hz' => ?_⟩
      cases m' with
      | zero =>
        simp at hz'
        subst hz'
        rw [e]
        exact Bool.eq_false_iff.mpr hx
      | succ m' => exact e4 m' (by omega) z' (by simpa using hz')
theorem pyDs_get : ∀ {xs : List D} {m : Nat}, (pyDs xs)[m]? = (xs[m]?).map pyD
  | [], m => by unfold pyDs; simp
  | x :: xs, 0 => by unfold pyDs; rfl
  | x :: xs, m + 1 => by unfold pyDs; simpa using pyDs_get
theorem VRs.reverse {K : PySem.W.Frag} {r : List Addr} {H : Hp} : ∀ {ds : List D} {vs : List V}, VRs K r H ds vs → VRs K r H ds.reverse vs.reverse
  | [], vs, h => by rw [VRs.nil_iff.mp h]; exact VRs.nil_iff.mpr rfl
  | d :: ds, vs, h => by
    obtain ⟨v, q, rfl, h1, h2⟩ := h.inv
    rw [List.reverse_cons, List.reverse_cons]
    exact (VRs.reverse h2).append (.cons h1 (VRs.nil_iff.mpr rfl))
/-- the methods of lists -/
theorem list_meth (hu : X.A.units + 200 < cLine) {i : Nat} {m : LM} {ds : List D} {a : Addr} {vs : List V} {us : List Value} (I : Inv X pins σ H s) (R : Rel X.K X.mg X.w r g H) (ea : r[i]? = some a) (hd : VRs X.K r H ds vs) (ru : Vals vs us)
    (hp : Post X.K X.mg X.w (E σ) r H (listM (.ref i) m ds g) Q) : wpAny (model X.prog X.w) X.A (PySem.call (.builtin m.id) (.ref a :: us)) (EP X pins σ Q) X.xe s := by
  have rv : RelV (V.ref a) (Value.ref a) := rfl
  obtain ⟨o, ho, oo⟩ := R.get ea
  unfold listM at hp
  dsimp only at hp
  rw [ho] at hp
  cases o with
  | dK _ => exact hp.elim
  | dT _ => exact hp.elim
  | lk _ => exact hp.elim
  | ins _ _ => exact hp.elim
  | lst xs =>
  obtain ⟨ws, h1, h2⟩ := oo
  dsimp only at hp
  split at hp
  · rename_i y
    split at hp
    · rename_i hl
      obtain ⟨w, rfl, hy⟩ := hd.one
      refine mt_append pins s σ H _ _ _ us Q I rv ru ⟨a, ws, w, rfl, rfl, h1, by rw [h2.length, ← line_eq]; exact hl, ?_⟩
      exact Post.put hp R ea h1 trivial (lst_put (xs := xs) h1 (h2.append (.cons hy (VRs.nil_iff.mpr rfl)))) .non
    · exact hp.elim
  · rename_i b
    split at hp
    · rename_i ys hb
      split at hp
      · rename_i hl
        obtain ⟨w, rfl, hy⟩ := hd.one
        obtain ⟨p, ep, rfl⟩ := hy.ref_inv
        obtain ⟨zs, h3, h4⟩ := R.at_ b p _ ep hb
        refine mt_extend pins s σ H _ _ _ us Q I rv ru ⟨a, p, ws, zs, rfl, rfl, h1, h3, by rw [h2.length, h4.length, ← line_eq]; exact hl, ?_⟩
        exact Post.put hp R ea h1 trivial (lst_put (xs := xs) h1 (h2.append h4)) .non
      · exact hp.elim
    · exact hp.elim
  · rw [VRs.nil_iff.mp hd] at ru
    cases hg : xs.getLast? with
    | none => rw [hg] at hp; exact hp.elim
    | some y =>
      rw [hg] at hp
      have hy : xs[xs.length - 1]? = some y := by rw [← List.getLast?_eq_getElem?]; exact hg
      obtain ⟨w, h3, h4⟩ := h2.get hy
      refine mt_pop pins s σ H _ _ _ us Q I rv ru ⟨a, ws, w, rfl, rfl, h1, by rw [h2.length]; exact h3, ?_⟩
      exact Post.put (d := y) hp R ea h1 trivial (lst_put (xs := xs) h1 (dropLast_rel h2)) h4
  · rename_i k
    split at hp
    · rename_i hk
      obtain ⟨w, rfl, hy⟩ := hd.one
      cases hg : xs[k.toNat]? with
      | none => rw [hg] at hp; exact hp.elim
      | some y =>
        rw [hg] at hp
        obtain ⟨w', h3, h4⟩ := h2.get hg
        have hlt : k.toNat < xs.length := (List.getElem?_eq_some_iff.mp hg).1
        have hix : seqIndex? k ws.length = some k.toNat := by
          have e1 : L2.ixN ws.length k = some k.toNat := by
            unfold L2.ixN
            rw [if_pos hk.1, if_pos (by rw [h2.length]; omega)]
          exact (ixN_seq e1).1
        refine mt_popAt pins s σ H _ _ _ us Q I rv ru ⟨a, ws, k, k.toNat, w', rfl, by rw [hy.int_inv], h1, by omega, by omega, hix, h3, ?_⟩
        exact Post.put (d := y) hp R ea h1 trivial (lst_put (xs := xs) h1 (h2.erase _)) h4
    · exact hp.elim
  · rename_i y
    split at hp
    · rename_i hk
      obtain ⟨w, rfl, hy⟩ := hd.one
      have ky : y.dep ≤ 60 := of_decide_eq_true hk.1
      have kx : D.deps xs ≤ 60 := of_decide_eq_true hk.2
      cases hix : ixD y xs 0 with
      | none => rw [hix] at hp; exact hp.elim
      | some j =>
        rw [hix] at hp
        obtain ⟨m, e1, ⟨z, e2, e3⟩, e4⟩ := ixD_some ky kx hix
        have e1 : j = m := by omega
        subst e1
        refine mt_indexD (by omega) pins s σ H _ _ _ us Q I rv ru ⟨a, w, pyD y, pyDs xs, j, pyD z, rfl, rfl, dp_list h1 h2 kx, VR.dp y w hy ky, pyDs_shapedL kx, pyD_shaped ky, ?_, e3, fun m' z' hm' hz' => ?_, ?_⟩
        · rw [pyDs_get, e2]; rfl
        · rw [pyDs_get] at hz'
          obtain ⟨z2, q1, q2⟩ := Option.map_eq_some_iff.mp hz'
          rw [← q2]
          exact e4 m' hm' z2 q1
        · exact Post.here (d := .int j) hp R .int
    · exact hp.elim
  · rename_i k y
    split at hp
    · rename_i hk
      obtain ⟨w, w2, rfl, hy, hy2⟩ := hd.two
      have hl : (2 : Int) ^ 63 = 9223372036854775808 := by decide
      refine mt_insert pins s σ H _ _ _ us Q I rv ru ⟨a, ws, k, w2, rfl, by rw [hy.int_inv], h1, by rw [h2.length, sizeLine_eq]; omega, hk.1, by omega, ?_⟩
      refine Post.put hp R ea h1 trivial (lst_put (xs := xs) h1 ?_) .non
      rw [List.append_assoc]
      exact (h2.take _).append (.cons hy2 (h2.drop _))
    · exact hp.elim
  · rw [VRs.nil_iff.mp hd] at ru
    refine mt_reverse pins s σ H _ _ _ us Q I rv (by rw [VRs.nil_iff.mp hd] <;> exact ru) ⟨a, ws, rfl, VRs.nil_iff.mp hd, h1, ?_⟩
    exact Post.put hp R ea h1 trivial (lst_put (xs := xs) h1 h2.reverse) .non
  · exact hp.elim
/-- d.setdefault(k, v) -/
theorem dict_meth (hu : X.A.units + 200 < cLine) {i : Nat} {ds : List D} {a : Addr} {vs : List V} {us : List Value} (I : Inv X pins σ H s) (R : Rel X.K X.mg X.w r g H) (ea : r[i]? = some a) (hd : VRs X.K r H ds vs) (ru : Vals vs us)
    (hp : Post X.K X.mg X.w (E σ) r H (dictM (.ref i) "setdefault" ds g) Q) : wpAny (model X.prog X.w) X.A (PySem.call (.builtin "dict.setdefault") (.ref a :: us)) (EP X pins σ Q) X.xe s := by
  obtain ⟨o, ho, oo⟩ := R.get ea
  unfold dictM at hp
  dsimp only at hp
  rw [ho] at hp
  cases o with
  | dT kvs =>
    dsimp only at hp
    split at hp
    · rename_i k v
      split at hp
      · rename_i hk
        obtain ⟨w, w2, rfl, hy, hy2⟩ := hd.two
        obtain ⟨xs, rfl, _⟩ := keyT_tup hk.2.1
        obtain ⟨b, vs', rfl, _, _⟩ := id hy.tup_inv
        obtain ⟨u1, u2, rfl, ru1, ru2⟩ := ru.two
        obtain rfl : u1 = Value.ref b := ru1
        refine t_sd hu I R ea ho (by rw [← line_eq]; exact hk.2.2) hk.2.1 hy hy2 ru2 (fun d' v' u' s' hl I' q1 q2 => ?_) fun H' s' hl I' x' R' => ?_
        · rw [hl] at hp
          exact ⟨v', H, I', q2, Post.here (d := d') hp R q1⟩
        · rw [hl] at hp
          exact ⟨w2, H', I', ru2, hp r w2 H' x' R' (VR.mono x' _ _ hy2)⟩
      · exact hp.elim
    · exact hp.elim
  | _ => exact hp.elim
theorem dictM_nil {i : Nat} : ¬ Post X.K X.mg X.w (E σ) r H ((Uk.R.ok ([] : List D) g).bind fun ds g => dictM (.ref i) "setdefault" ds g) Q := by
  intro hp
  have hp : Post X.K X.mg X.w (E σ) r H (dictM (.ref i) "setdefault" [] g) Q := hp
  unfold dictM at hp
  dsimp only at hp
  cases h : g[i]? with
  | none => rw [h] at hp; exact hp
  | some o =>
    rw [h] at hp
    cases o <;> exact hp
theorem strsD_rel {K : PySem.W.Frag} {r : List Addr} {H : Hp} : ∀ {xs : List D} {ys : List String} {vs : List V}, strsD xs = some ys → VRs K r H xs vs → vs = (ys.map sS).map V.str
  | [], ys, vs, h, q => by
    cases h
    exact VRs.nil_iff.mp q
  | x :: xs, ys, vs, h, q => by
    cases x with
    | str s =>
      obtain ⟨w, ws, rfl, h1, h2⟩ := q.inv
      have h : (strsD xs).map (s :: ·) = some ys := h
      cases hs : strsD xs with
      | none => rw [hs] at h; cases h
      | some zs =>
        rw [hs] at h
        cases h
        rw [h1.str_inv, strsD_rel hs h2]
        rfl
    | _ => cases h
theorem strs_vrs {K : PySem.W.Frag} {r : List Addr} {H : Hp} : ∀ ys : List String, VRs K r H (ys.map D.str) ((ys.map sS).map V.str)
  | [] => VRs.nil_iff.mpr rfl
  | y :: ys => .cons VR.str (strs_vrs ys)
/-- the methods of texts -/
theorem str_meth {z : String} {m : String} {ds : List D} {u : Value} {vs : List V} {us : List Value} (hm : m = "join" ∨ m = "split") (I : Inv X pins σ H s) (R : Rel X.K X.mg X.w r g H) (hu : RelV (V.str (sS z)) u) (hd : VRs X.K r H ds vs) (ru : Vals vs us)
    (hp : Post X.K X.mg X.w (E σ) r H (strM (.str z) m ds g) Q) : wpAny (model X.prog X.w) X.A (PySem.call (.builtin (if m = "join" then "str.join" else "str.split")) (u :: us)) (EP X pins σ Q) X.xe s := by
  unfold strM at hp
  dsimp only at hp
  split at hp
  · rename_i b
    split at hp
    · rename_i hc
      obtain ⟨rfl, h1, h2, h3⟩ := hc
      obtain ⟨w, rfl, hy⟩ := hd.one
      rw [if_neg (by decide)]
      unfold newL at hp
      split at hp
      · refine mt_split pins s σ H _ _ _ us Q I hu ru ⟨sS z, sS b, rfl, by rw [hy.str_inv], ?_, ?_, fun p ht => ?_⟩
        · rw [sS_len]
          exact beq_false_of_ne (by omega)
        · rw [sS_len, sizeLine_eq]
          omega
        · rw [← splT_eq h1 h3]
          exact Post.newLst hp R (strs_vrs _) ht
      · exact hp.elim
    · exact hp.elim
  · rename_i a
    split at hp
    · rename_i hc
      subst hc
      rw [if_pos rfl]
      cases hl : (lsOf g a).bind strsD with
      | none => rw [hl] at hp; exact hp.elim
      | some ys =>
        rw [hl] at hp
        have hp : Post X.K X.mg X.w (E σ) r H (if (ys.map String.length).sum + ys.length * z.length ≤ 1000000 then .ok (.str (joinT z ys)) g else .bad) Q := hp
        split at hp
        · rename_i hz
          obtain ⟨w, rfl, hy⟩ := hd.one
          obtain ⟨xs, hx1, hx2⟩ := Option.bind_eq_some_iff.mp hl
          obtain ⟨p, ws, _, rfl, h1, h2⟩ := R.lst hx1 hy
          have e := strsD_rel hx2 h2
          subst e
          refine mt_join pins s σ H _ _ _ us Q I hu ru ⟨sS z, p, ys.map sS, rfl, rfl, .inl (.of h1), ?_, ?_⟩
          · have : (ys.map sS).map (fun x => x.length) = ys.map String.length := by
              rw [List.map_map]
              exact List.map_congr_left fun y _ => sS_len y
            rw [this, List.length_map, sS_len]
            omega
          · rw [← joinT_eq]
            exact hp.here R VR.str
        · exact hp.elim
    · exact hp.elim
  · exact hp.elim
/-- t.index(y), t a tuple of data -/
theorem tup_meth (hu : X.A.units + 200 < cLine) {xs : List D} {x : V} {v : Value} {ds : List D} {vs : List V} {us : List Value} (I : Inv X pins σ H s) (R : Rel X.K X.mg X.w r g H) (hx : VR X.K r H (.tup xs) x) (rx : RelV x v) (hd : VRs X.K r H ds vs) (ru : Vals vs us)
    (hp : Post X.K X.mg X.w (E σ) r H (tupM (.tup xs) ds g) Q) : wpAny (model X.prog X.w) X.A (PySem.call (.builtin "tuple.index") (v :: us)) (EP X pins σ Q) X.xe s := by
  unfold tupM at hp
  split at hp
  · rename_i ys y hxy
    cases hxy
    split at hp
    · rename_i hk
      obtain ⟨w, rfl, hy⟩ := hd.one
      have ky : y.dep ≤ 60 := of_decide_eq_true hk.1
      have kx : D.deps xs ≤ 60 := of_decide_eq_true hk.2
      cases hix : ixD y xs 0 with
      | none => rw [hix] at hp; exact hp.elim
      | some j =>
        rw [hix] at hp
        obtain ⟨m, e1, ⟨z, e2, e3⟩, e4⟩ := ixD_some ky kx hix
        obtain rfl : j = m := by omega
        obtain ⟨a, ws, rfl, h1, h2⟩ := hx.tup_inv
        obtain rfl : v = Value.ref a := rx
        obtain ⟨uy, rfl, ruy⟩ := vals1 ru
        obtain ⟨bs, ry⟩ := Dp.reads I (pyD y) w uy (VR.dp y w hy ky) ruy
        obtain ⟨its, rv, pl, hz⟩ := I.tuple h1
        obtain ⟨⟨cls, dd, dt, sl⟩, ho, hc, n, hdt⟩ := pl
        simp only at hc hdt
        subst hc hdt
        obtain ⟨as, ra⟩ := Dp.readsAll I (pyDs xs) _ its (VRs.dp xs ws h2 kx) rv
        have lay : PyData.canLayAll0 (pyDs xs) = true := pyDs_lay xs
        have len : its.length = (pyDs xs).length := SeqAt.ReadsAll.length (pyDs xs) its as ra
        have mp : its.map (SeqAt.readOf s.heap) = pyDs xs := SeqAt.readsAll_map (pyDs xs) its as lay ra
        have sd := pyD_shaped ky
        have rd : ∀ (m : Nat) (hm : m < its.toArray.size) (q : PyData), (pyDs xs)[m]? = some q → SeqAt.readOf s.heap its.toArray[m] = q := fun m hm q hq => by
          have hm' : m < its.length := by simpa using hm
          rw [← mp, List.getElem?_map, List.getElem?_eq_getElem hm'] at hq
          simpa using Option.some.inj hq
        have hj : j < its.toArray.size := by
          have := (List.getElem?_eq_some_iff.mp e2).1
          have e5 := h2.length
          have e6 := rv.length
          simp only [List.size_toArray]
          omega
        have hroom : X.A.units + 1 + min (PyData.depthAll (pyDs xs)) (pyD y).depth < cLine := by
          have := pyD_dep y
          omega
        refine call_meets PySem.F.slot_tuple_index ⟨_, ho, rfl⟩ PySem.F.entry_tuple_index (PySem.F.args_tuple_index_2 _ _) (TI.tuple_indexAt a its.toArray n dd sl uy (fun u => PyData.eqv (SeqAt.readOf s.heap u) (pyD y)) j hj ?_ fun m hm hlt => ?_)
          ⟨ho, SeqAt.items_eqAt (vs := its.toArray) (show ReadsAll s.heap its.toArray.toList (pyDs xs) as from ra) ry lay (SeqAt.canLay_of_shaped sd) hroom, ⟨.int (j : Nat), H, I.tok _, ⟨_, rfl⟩, Post.here (d := .int j) hp R .int⟩⟩
        · show PyData.eqv (SeqAt.readOf s.heap its.toArray[j]) (pyD y) = true
          rw [rd j hj (pyD z) (by rw [pyDs_get, e2]; rfl)]
          exact e3
        · have hm' : m < xs.length := by
            have e5 := h2.length
            have e6 := rv.length
            simp only [List.size_toArray] at hm
            omega
          show PyData.eqv (SeqAt.readOf s.heap its.toArray[m]) (pyD y) = false
          rw [rd m hm (pyD xs[m]) (by rw [pyDs_get, List.getElem?_eq_getElem hm']; rfl)]
          exact e4 m hlt _ (List.getElem?_eq_getElem hm')
    · exact hp.elim
  · exact hp.elim
/-- o.m(..) -/
theorem pe_metD (O : XOk X ck c N sc E) {p : PySem.Expr} {ps : List PySem.Expr} {m : String} {apos pos : Pos} {mo : Env → G → Uk.R D} {ma : Env → G → Uk.R (List D)} (hb : noSup p = true) (hpl : ∀ p ∈ ps, plainP p = true) (hnil : ps = [] → ∀ e g, ma e g = .ok [] g) (hlen : ps.length < 30) (hline : lineB apos pos = true)
    (ho : PE X p (LE X E mo)) (ha : PA X ps (LA X E ma)) : PE X (.Call (.Attribute p (sS m) apos) ps [] pos) (LE X E fun e g => (mo e g).bind fun x g => match kindOf c.P x m g with
      | some .lst => orElse (LM.of m) fun q => (ma e g).bind fun ds g => listM x q ds g
      | some (.ins k) => (ma e g).bind fun ds g => c.call k m (x :: ds) g
      | some .dct => (ma e g).bind fun ds g => dictM x m ds g
      | some .str => (ma e g).bind fun ds g => strM x m ds g
      | none => .bad) := by
  refine ⟨fun pins s σ H Q I ⟨r, g, e, R, er, hp⟩ => ?_⟩
  refine methodCall_gen hb hpl hlen hline (LE.seq ho I R er hp fun u s1 r1 g1 H1 d v I1 x R1 er1 hv ru hp pl => ?_)
  cases hk : kindOf c.P d m g1 with
  | none => rw [hk] at hp; exact hp.elim
  | some kd =>
    rw [hk] at hp
    unfold kindOf at hk
    cases d with
    | ref i =>
      obtain ⟨a, ea, rfl⟩ := hv.ref_inv
      have ru : u = Value.ref a := ru
      subst ru
      obtain ⟨o, ho1, oo⟩ := R1.get ea
      dsimp only at hk
      rw [ho1] at hk
      cases o with
      | lst xs =>
        cases hk
        obtain ⟨vs, h1, h2⟩ := oo
        cases hm : LM.of m with
        | none => rw [hm] at hp; exact hp.elim
        | some q =>
          rw [hm] at hp
          have hp : Post X.K X.mg X.w (E σ) r1 H1 ((ma e g1).bind fun ds g => listM (.ref i) q ds g) Q := hp
          obtain ⟨sl, ty⟩ := LM.slot hm
          obtain ⟨z, its, n, rv, hob⟩ := I1.hok a _ h1
          refine getMethod_builtin (T := "list") ⟨_, hob, rfl⟩ PySem.F.plainAttrs_list sl ty (fun a' e' => by cases e'; exact ⟨_, hob, rfl⟩) ?_
          cases ps with
          | nil =>
            have hp : Post X.K X.mg X.w (E σ) r1 H1 ((ma e g1).bind fun ds g => listM (.ref i) q ds g) Q := hp
            rw [hnil rfl] at hp
            exact Calls.callWith_builtin rfl (PySem.evalArgs_none (list_meth O.units I1 R1 ea (VRs.nil_iff.mpr rfl) .nil hp))
          | cons p0 ps0 =>
            have st := star_plain (ps := ps0) (env := X.env) (hpl p0 List.mem_cons_self)
            have ba : (backTo pos (starEach ps0 X.env)).any (·.1) = false := back_any fun q hq => hpl q (List.mem_cons_of_mem _ hq)
            have hA : wpAny (model X.prog X.w) X.A (spliced (backTo pos (starEach (p0 :: ps0) X.env))) (fun us s2 => wpAny (model X.prog X.w) X.A (PySem.call (.builtin q.id) (.ref a :: us)) (EP X pins σ Q) X.xe s2) X.xe s1 :=
              LA.seq ha pos I1 R1 er1 hp fun us s2 r2 g2 H2 ds vs I2 x2 R2 er2 hd ru2 hp2 => list_meth O.units I2 R2 (x2.get ea) hd ru2 hp2
            rw [st] at hA ⊢
            exact Calls.callWith_builtin (by show (false || (backTo pos (starEach ps0 X.env)).any (·.1)) = false; rw [ba] <;> rfl) (Calls.evalArgs_plain hA)
      | dK _ => cases hk
      | lk _ => cases hk
      | dT kvs =>
        dsimp only at hk
        split at hk
        · rename_i hm
          subst hm
          cases hk
          have hp : Post X.K X.mg X.w (E σ) r1 H1 ((ma e g1).bind fun ds g => dictM (.ref i) "setdefault" ds g) Q := hp
          obtain ⟨xs, ys, _, DD⟩ := (DO.of (X := X) (g := g1) oo rfl).ent I1
          obtain ⟨od, es, ep, ho2, hx2, _⟩ := id DD.dict
          refine getMethod_builtin (T := "dict") DD.dict.typeIs PySem.F.plainAttrs_dict PySem.F.slot_dict_setdefault PySem.F.type_dict_setdefault (fun a' e' => by cases e'; exact ⟨_, ho2, hx2.2.1⟩) ?_
          cases ps with
          | nil =>
            rw [hnil rfl] at hp
            exact absurd hp (dictM_nil (i := i) (g := g1))
          | cons p0 ps0 =>
            have st := star_plain (ps := ps0) (env := X.env) (hpl p0 List.mem_cons_self)
            have ba : (backTo pos (starEach ps0 X.env)).any (·.1) = false := back_any fun q hq => hpl q (List.mem_cons_of_mem _ hq)
            have hA : wpAny (model X.prog X.w) X.A (spliced (backTo pos (starEach (p0 :: ps0) X.env))) (fun us s2 => wpAny (model X.prog X.w) X.A (PySem.call (.builtin "dict.setdefault") (.ref a :: us)) (EP X pins σ Q) X.xe s2) X.xe s1 :=
              LA.seq ha pos I1 R1 er1 hp fun us s2 r2 g2 H2 ds vs I2 x2 R2 er2 hd ru2 hp2 => dict_meth O.units I2 R2 (x2.get ea) hd ru2 hp2
            rw [st] at hA ⊢
            exact Calls.callWith_builtin (by show (false || (backTo pos (starEach ps0 X.env)).any (·.1)) = false; rw [ba] <;> rfl) (Calls.evalArgs_plain hA)
        · cases hk
      | ins k fs =>
        dsimp only at hk
        split at hk
        · rename_i hc
          cases hk
          rw [Bool.and_eq_true, Bool.and_eq_true, Bool.and_eq_true, Bool.not_eq_true'] at hc
          obtain ⟨⟨⟨hno, hcl⟩, hpr⟩, hsm⟩ := hc
          have hp : Post X.K X.mg X.w (E σ) r1 H1 ((ma e g1).bind fun ds g => c.call k m (.ref i :: ds) g) Q := hp
          obtain ⟨C, dx, qs, h0, h1, h2, ca⟩ := ins_cls O R1 ea ho1 hcl
          have hlk := lookF_rel (f := m) h2
          cases hlo : lookF m fs with
          | some _ => rw [hlo] at hno; exact absurd hno (by simp)
          | none =>
          rw [hlo] at hlk
          obtain ⟨fd, hfd⟩ := Option.isSome_iff_exists.mp hsm
          obtain ⟨fa, dt, M, at_⟩ := O.gf.met k m fd C hcl hfd hpr h0
          refine getmeth_ok I1 h1 ca.cl M hlk ?_
          refine callWith_go (first := [.ref a]) ha hpl hnil M.kp I1 R1 er1 hp fun us s2 r2 g2 H2 ds vs I2 x2 R2 er2 hd ru2 hp2 => ?_
          by_cases hbad : c.call k m (.ref i :: ds) g2 = .bad
          · rw [hbad] at hp2; exact hp2.elim
          · obtain ⟨fd', hfd', hl⟩ := O.ar0 k m _ g2 hbad
            rw [hfd] at hfd'
            cases hfd'
            exact run0 O hfd at_ I2 R2 (ds := .ref i :: ds) (vs := .ref a :: vs) (.cons (.ref (x2.get ea)) hd) (.cons rfl ru2) hl hp2
        · cases hk
    | str z =>
      dsimp only at hk
      split at hk
      · rename_i hm
        cases hk
        have ru : RelV (V.str (sS z)) u := by rw [← hv.str_inv]; exact ru
        have hp : Post X.K X.mg X.w (E σ) r1 H1 ((ma e g1).bind fun ds g => strM (.str z) m ds g) Q := hp
        obtain ⟨t, rfl⟩ := ru
        have sl : Slot "str" (sS m) (if m = "join" then "str.join" else "str.split") ∧ typeOf (.builtin (if m = "join" then "str.join" else "str.split")) = pure (.type "method_descriptor") := by
          rcases hm with rfl | rfl
          · exact ⟨PySem.F.slot_str_join, PySem.F.type_str_join⟩
          · exact ⟨PySem.F.slot_str_split, PySem.F.type_str_split⟩
        refine getMethod_builtin (T := "str") (PySem.typeIs_str _ _ _) PySem.F.plainAttrs_str sl.1 sl.2 (fun a' e' => by cases e') ?_
        cases ps with
        | nil =>
          rw [hnil rfl] at hp
          exact (show False from hp).elim
        | cons p0 ps0 =>
          have st := star_plain (ps := ps0) (env := X.env) (hpl p0 List.mem_cons_self)
          have ba : (backTo pos (starEach ps0 X.env)).any (·.1) = false := back_any fun q hq => hpl q (List.mem_cons_of_mem _ hq)
          have hA : wpAny (model X.prog X.w) X.A (spliced (backTo pos (starEach (p0 :: ps0) X.env))) (fun us s2 => wpAny (model X.prog X.w) X.A (PySem.call (.builtin (if m = "join" then "str.join" else "str.split")) (Value.str (sS z) t :: us)) (EP X pins σ Q) X.xe s2) X.xe s1 :=
            LA.seq ha pos I1 R1 er1 hp fun us s2 r2 g2 H2 ds vs I2 x2 R2 er2 hd ru2 hp2 => str_meth hm I2 R2 ⟨t, rfl⟩ hd ru2 hp2
          rw [st] at hA ⊢
          exact Calls.callWith_builtin (by show (false || (backTo pos (starEach ps0 X.env)).any (·.1)) = false; rw [ba] <;> rfl) (Calls.evalArgs_plain hA)
      · cases hk
    | _ => cases hk
/-- f(..) -/
theorem pe_callD (O : XOk X ck c N sc E) {ps : List PySem.Expr} {f : String} {p pos : Pos} {ma : Env → G → Uk.R (List D)} (hg : glB sc (sS f) = true) (hpl : ∀ p ∈ ps, plainP p = true) (hnil : ps = [] → ∀ e g, ma e g = .ok [] g) (hfn : (c.P.fn "" f).isSome = true)
    (ha : PA X ps (LA X E ma)) : PE X (.Call (.Name (sS f) p) ps [] pos) (LE X E fun e g => (ma e g).bind fun ds g => c.call "" f ds g) := by
  refine ⟨fun pins s σ H Q I ⟨r, g, e, R, er, hp⟩ => ?_⟩
  obtain ⟨fd, hfd⟩ := Option.isSome_iff_exists.mp hfn
  obtain ⟨fa, dt, hm, at_⟩ := O.gf.fn f fd hfd
  obtain ⟨gl, nd, _⟩ := gl_of O hg
  have kp : PySem.W.keepIn X.K (.ref fa) = true := by
    obtain ⟨_, _, _, _, _, _, _, F, _⟩ := at_.ex
    exact F.kp
  refine wpAny_Call_Name_kw (ld_glob I gl hm ?_ nd)
  refine callWith_go (first := []) ha hpl hnil kp I R er hp fun us s2 r2 g2 H2 ds vs I2 x2 R2 er2 hd ru2 hp2 => ?_
  by_cases hbad : c.call "" f ds g2 = .bad
  · rw [hbad] at hp2; exact hp2.elim
  · obtain ⟨fd', hfd', hl⟩ := O.ar0 "" f _ g2 hbad
    rw [hfd] at hfd'
    cases hfd'
    exact run0 O hfd at_ I2 R2 hd ru2 hl hp2
where
  gl_of (O : XOk X ck c N sc E) {x : Str} (hg : glB sc x = true) : Gl X x ∧ (x == ("__debug__" : Str)) = false ∧ x ≠ "__name__" := by
    unfold glB nmB at hg
    rw [Bool.and_eq_true, Bool.and_eq_true, Bool.and_eq_true, Bool.not_eq_true', Bool.not_eq_true', Bool.not_eq_true'] at hg
    obtain ⟨⟨⟨h1, _⟩, h2⟩, h3⟩ := hg
    refine ⟨?_, h1, fun z => by rw [z] at h2; simp at h2⟩
    unfold Gl PySem.Env.kindOf
    rw [O.sc]
    split at h3
    · rename_i q; exact q
    · cases h3
/-- C(..) -/
theorem pe_mkD (O : XOk X ck c N sc E) {ps : List PySem.Expr} {k : String} {p pos : Pos} {ma : Env → G → Uk.R (List D)} (hg : glB sc (sS k) = true) (hpl : ∀ p ∈ ps, plainP p = true) (hnil : ps = [] → ∀ e g, ma e g = .ok [] g) (hk : c.P.cls k = true)
    (hpr : c.P.prop k "__init__" = false) (ha : PA X ps (LA X E ma)) : PE X (.Call (.Name (sS k) p) ps [] pos) (LE X E fun e g => (ma e g).bind fun ds g => make c k ds g) := by
  refine ⟨fun pins s σ H Q I ⟨r, g, e, R, er, hp⟩ => ?_⟩
  obtain ⟨C, hm, ca⟩ := O.gf.cls k hk
  obtain ⟨gl, nd, _⟩ := pe_callD.gl_of O hg
  obtain ⟨fm, M⟩ := ca.mkr
  refine wpAny_Call_Name_kw (ld_glob I gl hm ?_ nd)
  refine callWith_go (first := []) ha hpl hnil M.kp I R er hp fun us s2 r2 g2 H2 ds vs I2 x2 R2 er2 hd ru2 hp2 => ?_
  unfold make at hp2
  rw [if_pos hk] at hp2
  by_cases hbad : c.call1 k "__init__" (.ref g2.length :: ds) (g2 ++ [.ins k []]) = .bad
  · rw [hbad] at hp2; exact hp2.elim
  · obtain ⟨fd, hfd, hl⟩ := O.ar1 k "__init__" _ _ hbad
    obtain ⟨fa, dt, Mt, at_⟩ := O.gf.met k "__init__" fd C hk hfd hpr hm
    have hfa : fm = fa := by
      have h1 := M.init
      have h2 := Mt.at_
      rw [h1] at h2
      cases h2
      rfl
    subst hfa
    obtain ⟨n, hr, _, hc1⟩ := O.room
    rcases hc1 with z | ⟨m, hmn, F⟩
    · exact absurd (z _ _ _ _) hbad
    · subst hmn
      refine run_mkS M (F k "__init__" fd fm dt hfd at_) hr at_.bi (O.pass σ) I2 ru2 fun x dx hx hdx hne => ?_
      refine ⟨by rw [← hl, List.length_cons, List.length_cons, hd.length], r2 ++ [x], g2 ++ [.ins k []], .ref g2.length :: ds, ?_, ?_, ?_⟩
      · have R3 : Rel X.K X.mg X.w r2 g2 (upd H2 dx (.own x)) := R2.beside hdx
        have hx3 : upd H2 dx (.own x) x = none := by rw [upd_ne (Ne.symm hne)]; exact hx
        exact R3.new hx3 ⟨C, dx, [], hm, upd_same, .nil⟩
      · have hx3 : upd H2 dx (.own x) x = none := by rw [upd_ne (Ne.symm hne)]; exact hx
        have ex : Ext r2 H2 (r2 ++ [x]) (upd (upd H2 dx (.own x)) x (.ins C dx [])) := (Ext.new hdx).trans (Ext.newR hx3)
        refine .cons (.ref ?_) (VRs.mono ex _ _ hd)
        rw [← R2.len]
        exact get_last
      · have hx3 : upd H2 dx (.own x) x = none := by rw [upd_ne (Ne.symm hne)]; exact hx
        have ex : Ext r2 H2 (r2 ++ [x]) (upd (upd H2 dx (.own x)) x (.ins C dx [])) := (Ext.new hdx).trans (Ext.newR hx3)
        cases hres : c.call1 k "__init__" (.ref g2.length :: ds) (g2 ++ [.ins k []]) with
        | bad => exact absurd hres hbad
        | exc y g3 =>
          rw [hres] at hp2
          exact fun r' H' cl d y' R' q => hp2 r' H' cl d (ex.trans y') R' q
        | ok d g3 =>
          rw [hres] at hp2
          intro r' v H' y' R' q
          cases d with
          | non =>
            refine ⟨q.non_inv, ?_⟩
            have hp2 : Post X.K X.mg X.w (E σ) r2 H2 (.ok (.ref g2.length) g3) Q := hp2
            refine hp2 r' _ H' (ex.trans y') R' (.ref (y'.get ?_))
            rw [← R2.len]
            exact get_last
          | _ => exact hp2.elim
/-- isinstance(x, T) -/
theorem pe_isiD (O : XOk X ck c N sc E) {p : PySem.Expr} {t : String} {p1 p2 pos : Pos} {m : Env → G → Uk.R D} (hg : glB sc (sS "isinstance") = true) (hg2 : glB sc (sS t) = true) (hpl : plainP p = true) (ht : c.P.cls t = true ∨ t ∈ ["int", "bool", "str", "tuple", "list", "dict"])
    (ha : PE X p (LE X E m)) : PE X (.Call (.Name (sS "isinstance") p1) [p, .Name (sS t) p2] [] pos) (LE X E fun e g => (m e g).bind fun x g => orElse (isInst c g x t) fun b => .ok (.bl b) g) := by
  obtain ⟨gl, nd, nn⟩ := pe_callD.gl_of O hg
  obtain ⟨gl2, nd2, nn2⟩ := pe_callD.gl_of O hg2
  have hv : ∃ cv u, PE X (.Name (sS t) p2) (tC cv) ∧ ClsV cv u ∧ ClsN X c.P t u := by
    by_cases hc : c.P.cls t = true
    · obtain ⟨C, hm, ca⟩ := O.gf.cls t hc
      exact ⟨.ref C, .ref C, pe_glob gl2 hm rfl nd2, .own C, .inr ⟨hc, C, hm, rfl⟩⟩
    · rcases ht with ht | ht
      · exact absurd ht hc
      · have hm : X.mg (sS t) = none := O.gf.blt t (by
          simp only [List.mem_cons, List.not_mem_nil, or_false] at ht
          unfold bnames
          simp only [List.mem_cons, List.not_mem_nil, or_false]
          rcases ht with rfl | rfl | rfl | rfl | rfl | rfl <;> simp)
        have hb : bootBuiltins (sS t) = some (.type t) := by
          simp only [List.mem_cons, List.not_mem_nil, or_false] at ht
          rcases ht with rfl | rfl | rfl | rfl | rfl | rfl <;> decide +kernel
        exact ⟨.ty t, .type t, pe_bltn gl2 hm hb rfl nn2 nd2, .ty t, .inl ⟨by simpa using hc, ht, rfl⟩⟩
  obtain ⟨cv, u, hcv, hcu, hcn⟩ := hv
  have hA : PA X [p, .Name (sS t) p2] (tCons (LE X E m) (tCons (tC cv) tNil)) := pa_cons ha (pa_cons hcv pa_nil (star_plain rfl)) (star_plain hpl)
  have hC := pe_callB (pos := pos) (p := p1) call_isi gl (O.gf.blt "isinstance" (by simp [bnames])) (by decide +kernel) hA nn nd (star_plain hpl) (by rw [star_plain (by rfl)]; rfl)
  refine ⟨fun pins s σ H Q I ⟨r, g, e, R, er, hp⟩ => hC.run pins s σ H Q I ?_⟩
  refine ⟨r, g, e, R, er, ?_⟩
  have hp : Post X.K X.mg X.w (E σ) r H ((m e g).bind fun x g => orElse (isInst c g x t) fun b => .ok (.bl b) g) Q := hp
  show Post X.K X.mg X.w (E σ) r H (m e g) fun x H1 => rIsi X.K [x, cv] H1 Q
  cases hm : m e g with
  | bad => rw [hm] at hp; exact hp.elim
  | exc y g1 => rw [hm] at hp; exact hp
  | ok d g1 =>
    rw [hm] at hp
    intro r' v H' x R' q
    have hp : Post X.K X.mg X.w (E σ) r H (orElse (isInst c g1 d t) fun b => .ok (.bl b) g1) Q := hp
    cases hz : isInst c g1 d t with
    | none => rw [hz] at hp; exact hp.elim
    | some z =>
      rw [hz] at hp
      obtain ⟨T, h1, h2⟩ := isi_ty (u := u) O.gf R' q hz hcn
      exact ⟨v, cv, T, u, z, rfl, hcu, h1, h2, Post.here (d := .bl z) (hp.ext x) R' .bl⟩
end
end Uk
end
section
set_option Elab.async false
set_option linter.all false
set_option maxRecDepth 100000
set_option autoImplicit false
set_option maxHeartbeats 1000000
namespace Uk
open PySem PySem.Spec PyProof.Rows L2
/-! ## enumerate(tuple) -/
theorem meets_enumerate_new0 {v : Value} {o : Obj} {H : Heap → Prop} (B : Begins v o H) :
    Meets (Builtin.«enumerate.__new__» ⟨[.type "enumerate", v], []⟩) (fun _ R s => H s.heap ∧
      R (.ok (.ret (.ref (s.heap.push o).objs.size))) { s with heap := (s.heap.push o).push { cls := .type "enumerate", data := .fields #[.none, .bool false, .ref s.heap.objs.size, rawInt 0, .none, .none] } }) :=
  .of_wp fun prog w A R s h => by
    obtain ⟨hp, g, d, tk, os⟩ := s
    obtain ⟨h1, h⟩ := h
    have hsub := sub_enumerate
    have q1 : ∀ {A' : Around} {E : Value → Shared → Prop} {Q : Value → Shared → Prop}, Q (.ref hp.objs.size) ⟨hp.push o, g, d, tk, os⟩ → wpAny (model prog w) A' (pyIter v) Q E ⟨hp, g, d, tk, os⟩ :=
      fun q => B.iter prog w _ _ ⟨hp, g, d, tk, os⟩ _ h1 q
    wp_walk using q1
    refine wpAny_stack_any fun st => wpAny_pure ?_
    split
    · rename_i c _ _ _ _ _
      cases (c == Value.type "enumerate")
      · wp_walk using q1
        exact ⟨_, rfl, h⟩
      · wp_walk using q1
        exact ⟨_, rfl, h⟩
    · wp_walk using q1
      exact ⟨_, rfl, h⟩
section
variable {prog : Program} {w : World} {A : Around} {E : Value → Shared → Prop} {s : Shared}
theorem enum_begins0 {v : Value} {o : Obj} {H : Heap → Prop} {Q : Value → Shared → Prop} (B : Begins v o H) (h1 : H s.heap)
    (h : ∀ h', IsEnum h' (s.heap.objs.size + 1) s.heap.objs.size 0 .none → h'.get? s.heap.objs.size = some o → h'.objs.size = s.heap.objs.size + 2 →
      (∀ b o, s.heap.get? b = some o → h'.get? b = some o) → Q (.ref (s.heap.objs.size + 1)) { s with heap := h' }) :
    wpAny (model prog w) A (PySem.call (.type "enumerate") [v]) Q E s := by
  refine callType_new F.called_enumerate (by decide) (F.typeCall_enumerate_1 _) (F.newCall_enumerate_1 _) (fun obj => F.args_object_init_2 obj _) F.entry_enumerate_new
    (meets_enumerate_new0 B) ⟨h1, ?_⟩
  have hz : (s.heap.push o).objs.size = s.heap.objs.size + 1 := Heap.size_push ..
  show _ ∧ _
  rw [hz]
  have he : IsEnum ((s.heap.push o).push { cls := .type "enumerate", data := .fields #[.none, .bool false, .ref s.heap.objs.size, rawInt 0, .none, .none] }) (s.heap.objs.size + 1) s.heap.objs.size 0 .none := by
    have := Heap.get?_push_size (s.heap.push o) (o := { cls := .type "enumerate", data := .fields #[.none, .bool false, .ref s.heap.objs.size, rawInt 0, .none, .none] }) rfl
    rw [hz] at this; exact this
  refine ⟨⟨_, he, rfl⟩, h _ he (Heap.get?_push_of_some _ (Heap.get?_push_size _ B.free)) (by rw [Heap.size_push, hz]) fun b o x => Heap.get?_push_of_some _ (Heap.get?_push_of_some _ x)⟩
theorem next_enumT_end {e it l : Addr} {i : Nat} {items : Array Value} {old : Value} {Q : Option Value → Shared → Prop} (hh : A.handled = none)
    (he : IsEnum s.heap e it i old) (hit : s.heap.IsTupleIter it l i) (hl : s.heap.IsTuple l items) (hx : items[i]? = none)
    (hQ : ∀ h', Heap.ExtBut it s.heap h' → Q none { s with heap := h' }) : wpAny (model prog w) A (pyNext (.ref e)) Q E s := by
  have hT : s.TypeIs (.ref e) "enumerate" := ⟨_, he, rfl⟩
  unfold pyNext
  refine wpAny_bind (wpAny_attempt (wpAny_callSpecial?_slot (name := Str.ofString "__next__") hT F.slot_enumerate_next
    (wpAny_call_entry F.slot_enumerate_next hT F.entry_enumerate_next ?_ (F.args_enumerate_next_1 _))))
  show wpAny _ _ (field (.ref e) 2 >>= _) _ _ _
  refine wpAny_bind (wpAny_field he rfl (x := .ref it) rfl ?_)
  refine wpAny_bind (wpAny_nextOf_tuple_end hh hit hl hx fun h' x he' hx' => ?_)
  obtain ⟨o, ho, hc⟩ := hx'
  refine wpAny_bind (wpAny_isInstance (T := "StopIteration") (b := true) ⟨o, ho, hc⟩ isSubtype_stop ?_)
  exact wpAny_pure (hQ _ he')
end
/-- the tuple at a, each item in a new pair -/
def IteT (K : PySem.W.Frag) (a : Addr) : L2.It :=
  ⟨fun i H => ∃ (xs : List V) (x : V), SqT K H a xs ∧ xs[i]? = some x, fun i H v H' => ∃ T x, v = .ref T ∧ H T = none ∧ H' = upd H T (.tup [.int (i : Nat), x]) ∧ ∀ xs, SqT K H a xs → xs[i]? = some x, fun i H => ∃ xs : List V, SqT K H a xs ∧ xs.length ≤ i⟩
theorem turn_enumT {P : Program} {w : World} {K : PySem.W.Frag} {elts : List Expr} {kk : Nat} {tpos : Pos} (a e it : Addr) :
    Turn P w K (.Tuple elts kk tpos) (IteT K a) [e, it] e (fun i h => (∃ old, IsEnum h e it ((i : Nat) : Int) old) ∧ h.IsTupleIter it a i ∧ e ≠ it) where
  mem := by simp
  obj := fun i h st b hb => by
    obtain ⟨⟨old, he⟩, ⟨o, ho, hc, hd⟩, _⟩ := st
    have e' : b = e ∨ b = it := by simpa using hb
    rcases e' with z | z
    · rw [z]; exact ⟨_, he, fun v q => nomatch q⟩
    · rw [z]; exact ⟨o, ho, fun v q => by rw [hd] at q; cases q⟩
  keep := fun i h h' st k => let ⟨⟨old, he⟩, hi, hne⟩ := st; ⟨⟨old, k e (by simp) _ he⟩, hi.at fun o q => k it (by simp) o q, hne⟩
  item := by
    intro X hP hw hK hc i pins s σ H E I hf st hg
    subst hP hw hK
    obtain ⟨⟨old, he⟩, hit, hne⟩ := st
    obtain ⟨xs, x, hq, hx⟩ := hg
    obtain ⟨its, rv, p, hz⟩ := I.tuple hq
    obtain ⟨u, hu, ru⟩ := rv.get hx
    have hel : e < s.heap.objs.size := Heap.lt_size he
    have hil : it < s.heap.objs.size := by obtain ⟨_, q, _⟩ := hit; exact Heap.lt_size q
    have p' : s.heap.IsTuple a its.toArray := p
    have hea : e ≠ a := fun z => by
      obtain ⟨o, ho, hc, _⟩ := p'
      rw [← z] at ho
      rw [show s.heap.get? e = some _ from he] at ho
      cases ho
      exact absurd hc (by simp)
    have hai : a ≠ it := fun z => by
      obtain ⟨o, ho, hc, _⟩ := p'
      obtain ⟨o2, ho2, hc2, _⟩ := hit
      rw [z, ho2] at ho
      cases ho
      rw [hc2] at hc
      exact absurd hc (by simp)
    have hlt : i < its.toArray.size := by
      have := (List.getElem?_eq_some_iff.mp hu).1
      simpa using this
    refine wpAny_pyNext_enum_itemD (Draws.tuple (A := X.A.in1) (I.ok.hd hc) it a hai its.toArray) he ⟨hit, p'⟩ hlt hne (by simp [hne, hea]) fun y h' tk hy ho hit' hT hsz hk => ?_
    have ey : y = u := by
      have hy : its.toArray[i]? = some y := hy
      rw [List.getElem?_toArray, hu] at hy
      exact (Option.some.inj hy).symm
    subst ey
    refine ⟨_, rfl, wpAny_letOwnedTupleGo_enum (s := { s with heap := h', toks := tk + 1 }) ho fun h'' he' sb => ?_⟩
    have hT2 : h''.get? s.heap.objs.size = some { cls := .type "tuple", data := .seq #[.int i tk, y] } := (sb.2 _ (Nat.ne_of_gt hel)).trans hT
    have new : ObjOk X.prog X.w (upd H s.heap.objs.size (.tup [.int (i : Nat), x])) h'' s.heap.objs.size (.tup [.int (i : Nat), x]) :=
      ⟨by show 2 ≤ sizeLine; decide, [.int i tk, y], .cons ⟨_, rfl⟩ (.cons ru .nil), ⟨_, hT2, rfl, _, rfl⟩⟩
    have I1 : Inv X pins σ (upd H s.heap.objs.size (.tup [.int (i : Nat), x])) { s with heap := h'', toks := tk + 1 } :=
      I.turnedNew (ch := [e, it]) (fun b ob hb q => (sb.2 b (fun z => hb (by simp [z]))).trans (hk b ob (fun z => hb (by simp [z])) (fun z => hb (by simp [z])) q)) hf (Nat.le_refl _) new
    refine ⟨.ref s.heap.objs.size, _, I1, rfl, ⟨_, x, rfl, I.hok.fresh (Nat.le_refl _), rfl, fun ys hy => by rw [I.tuple_inj hy hq]; exact hx⟩, ⟨⟨y, ?_⟩, hit'.1.at fun o q => (sb.2 it (Ne.symm hne)).trans q, hne⟩, fun b hb => ?_⟩
    · have e1 : ((i + 1 : Nat) : Int) = (i : Int) + 1 := by omega
      rw [e1]; exact he'
    · have hb' : b < s.heap.objs.size := by
        have e' : b = e ∨ b = it := by simpa using hb
        rcases e' with z | z
        · rw [z]; exact hel
        · rw [z]; exact hil
      rw [upd_ne (Nat.ne_of_lt hb')]
      exact (hf b hb).1
  done := by
    intro X hP hw hK hc i pins s σ H E I hf st hg
    subst hP hw hK
    obtain ⟨⟨old, he⟩, hit, hne⟩ := st
    obtain ⟨xs, hq, hx⟩ := hg
    obtain ⟨its, rv, p, hz⟩ := I.tuple hq
    obtain ⟨f0, f1, f2, f3, f4, f5⟩ := hf it (by simp)
    have hl := rv.length
    exact next_enumT_end (I.ok.hd hc) he hit (show s.heap.IsTuple a its.toArray from p) (by simp; omega) fun h' eb => ⟨rfl, I.turned (t' := s.toks) (fun b o hb q => eb b o hb q) f0 f1 f3 f4 f5⟩
  self := fun A i s Q E st h => let ⟨⟨_, he⟩, _⟩ := st; wpAny_pyIter_enum he h
def iEnumT (K : PySem.W.Frag) (ta : TA) : TI := fun σ H R => ta σ H fun vs H1 => ∃ a xs, vs = [.ref a] ∧ SqT K H1 a xs ∧ R (IteT K a) H1
theorem pi_enumT {X : L2.Cx} {e : Expr} {ta : TA} {p pos tpos : Pos} {elts : List Expr} {kk : Nat} (hg : Gl X "enumerate") (hm : X.mg "enumerate" = none) (ha : PA X [e] ta) (hs : starEach [e] X.env = [(false, eval e X.env)] := by rfl) :
    PI X (.Tuple elts kk tpos) (.Call (.Name "enumerate" p) [e] [] pos) (iEnumT X.K ta) := by
  refine ⟨fun pins s σ H R I h => ?_⟩
  refine Call_ (ld_blt I hg hm boot_enumerate (PyProof.Rows.callWith_type1 (thn (ha.run pos pins s σ H _ I h) fun us s1 ⟨vs, H1, I1, r1, q1⟩ => ?_) hs rfl))
  obtain ⟨a, xs, ex, hq, q⟩ := q1
  subst ex
  cases r1 with
  | cons r rr =>
    cases rr
    cases r
    obtain ⟨its, rv, p', hz⟩ := I1.tuple hq
    refine enum_begins0 (begins_tuple a its.toArray) (show s1.heap.IsTuple a its.toArray from p') fun h' he hit hsz hk => wpAny_pyIter_enum he ?_
    have I2 : Inv X pins σ H1 { s1 with heap := h' } := I1.kept (t' := s1.toks) hk
    refine ⟨s1.heap.objs.size + 1, [s1.heap.objs.size + 1, s1.heap.objs.size], _, _, H1, rfl, I2, turn_enumT a (s1.heap.objs.size + 1) s1.heap.objs.size, ⟨⟨.none, he⟩, ⟨_, hit, rfl, rfl⟩, Nat.succ_ne_self _⟩, fun b hb => ?_, q⟩
    have e' : b = s1.heap.objs.size + 1 ∨ b = s1.heap.objs.size := by simpa using hb
    have hle : s1.heap.objs.size ≤ b := by
      rcases e' with z | z
      · rw [z]; exact Nat.le_add_right _ _
      · rw [z]; exact Nat.le_refl _
    exact I1.fpOk hle (I1.hok.fresh hle)
end Uk
end
section
set_option Elab.async false
set_option linter.all false
set_option maxRecDepth 100000
set_option autoImplicit false
set_option maxHeartbeats 1000000
namespace Uk
open PySem PySem.Spec PyProof.Rows L2
/-! ## What is walked -/
/-- J yields what w says -/
structure ItOk (K : PySem.W.Frag) (mg : Str → Option Value) (wd : World) (r0 : List Addr) (H0 : Hp) (J : L2.It) (w : Wk) (n : Nat) : Prop where
  stop : ∀ i r g H, Ext r0 H0 r H → Rel K mg wd r g H → w.item n i g = some none → J.stop i H
  go : ∀ i r g H d, Ext r0 H0 r H → Rel K mg wd r g H → w.item n i g = some (some d) → J.go i H ∧ ∀ v H', J.yld i H v H' → Ext r H r H' ∧ Rel K mg wd r g H' ∧ VR K r H' d v
def PostI (K : PySem.W.Frag) (mg : Str → Option Value) (wd : World) (E : XK) (r : List Addr) (H : Hp) (m : Uk.R (Nat × Wk)) (Rr : L2.It → Hp → Prop) : Prop := match m with
  | .ok nw g => ∀ r' H' J, Ext r H r' H' → Rel K mg wd r' g H' → ItOk K mg wd r' H' J nw.2 nw.1 → Rr J H'
  | .exc x g => ∀ r' H' cls dx, Ext r H r' H' → Rel K mg wd r' g H' → XR K mg r' H' x cls dx → E cls dx H'
  | .bad => False
def LI (X : L2.Cx) (E : L2.St → XK) (m : Env → G → Uk.R (Nat × Wk)) : TI := fun σ H Rr => ∃ (r : List Addr) (g : G) (e : Env), Rel X.K X.mg X.w r g H ∧ ER X.K r H e σ ∧ PostI X.K X.mg X.w (E σ) r H (m e g) Rr
section
variable {X : L2.Cx} {ck : Arguments → List Stmt → Scope → FDef → Bool} {c : Cx} {N : List String} {sc : Scope} {E : L2.St → XK} {r : List Addr} {H : Hp} {g : G} {pins : List (Addr × Obj)} {s : Shared} {σ : L2.St} {v : V} {e : Env}
variable {K : PySem.W.Frag} {mg : Str → Option Value} {wd : World}
theorem Wk.tup_ok {a : Addr} {xs : List D} {vs : List V} {n : Nat} (h : SqT K H a vs) (q : VRs K r H xs vs) : ItOk K mg wd r H (Itt K a) (.tup xs) n where
  stop := fun i r1 g1 H1 x R e => ⟨vs, x.kept.sqT h, by
    have e : some xs[i]? = some none := e
    have e : xs[i]? = none := Option.some.inj e
    rw [q.length]
    exact List.getElem?_eq_none_iff.mp e⟩
  go := fun i r1 g1 H1 d x R e => by
    have e : some xs[i]? = some (some d) := e
    have e : xs[i]? = some d := Option.some.inj e
    obtain ⟨v, e1, e2⟩ := q.get e
    refine ⟨⟨vs, v, x.kept.sqT h, e1⟩, fun w H' ⟨hH, y⟩ => ?_⟩
    subst hH
    have e3 := y vs (x.kept.sqT h)
    rw [e1] at e3
    cases e3
    exact ⟨.refl _ _, R, VR.mono x _ _ e2⟩
theorem Wk.fro_ok {a : Addr} {xs : List D} {vs : List V} {n : Nat} (h : FrL K H a vs) (q : VRs K r H xs vs) : ItOk K mg wd r H (Itl K a) (.fro xs) n where
  stop := fun i r1 g1 H1 x R e => ⟨vs, (x.kept.frL h).sq, by
    have e : some xs[i]? = some none := e
    have e : xs[i]? = none := Option.some.inj e
    rw [q.length]
    exact List.getElem?_eq_none_iff.mp e⟩
  go := fun i r1 g1 H1 d x R e => by
    have e : some xs[i]? = some (some d) := e
    have e : xs[i]? = some d := Option.some.inj e
    obtain ⟨v, e1, e2⟩ := q.get e
    refine ⟨⟨vs, v, (x.kept.frL h).sq, e1⟩, fun w H' ⟨hH, y⟩ => ?_⟩
    subst hH
    have e3 := y vs (x.kept.frL h).sq
    rw [e1] at e3
    cases e3
    exact ⟨.refl _ _, R, VR.mono x _ _ e2⟩
theorem Wk.etup_ok {a : Addr} {xs : List D} {vs : List V} {n : Nat} (h : SqT K H a vs) (q : VRs K r H xs vs) : ItOk K mg wd r H (IteT K a) (.etup xs) n where
  stop := fun i r1 g1 H1 x R e => ⟨vs, x.kept.sqT h, by
    have e : some (xs[i]?.map fun x => D.tup [.int i, x]) = some none := e
    have e : xs[i]? = none := Option.map_eq_none_iff.mp (Option.some.inj e)
    rw [q.length]
    exact List.getElem?_eq_none_iff.mp e⟩
  go := fun i r1 g1 H1 d x R e => by
    have e : some (xs[i]?.map fun x => D.tup [.int i, x]) = some (some d) := e
    obtain ⟨d0, e0, ed⟩ := Option.map_eq_some_iff.mp (Option.some.inj e)
    subst ed
    obtain ⟨v, e1, e2⟩ := q.get e0
    refine ⟨⟨vs, v, x.kept.sqT h, e1⟩, fun w H' ⟨T, u, ew, hT, hH, y⟩ => ?_⟩
    subst ew hH
    have e3 := y vs (x.kept.sqT h)
    rw [e1] at e3
    cases e3
    exact ⟨.new hT, R.beside hT, .tup (.of upd_same) (.cons .int (.cons (VR.mono (x.trans (.new hT)) _ _ e2) (VRs.nil_iff.mpr rfl)))⟩
theorem Wk.seq_ok {a : Addr} {i0 n : Nat} (h : r[i0]? = some a) : ItOk K mg wd r H (Itl K a) (.seq i0) n where
  stop := fun i r1 g1 H1 x R e => by
    have e : ((lsOf g1 i0).map fun xs => xs[i]?) = some none := e
    obtain ⟨xs, e1, e2⟩ := Option.map_eq_some_iff.mp e
    obtain ⟨p, vs, _, ep, h3, h4⟩ := R.lst e1 (.ref (x.get h))
    cases ep
    exact ⟨vs, .of h3, by rw [h4.length]; exact List.getElem?_eq_none_iff.mp e2⟩
  go := fun i r1 g1 H1 d x R e => by
    have e : ((lsOf g1 i0).map fun xs => xs[i]?) = some (some d) := e
    obtain ⟨xs, e1, e2⟩ := Option.map_eq_some_iff.mp e
    obtain ⟨p, vs, _, ep, h3, h4⟩ := R.lst e1 (.ref (x.get h))
    cases ep
    obtain ⟨v, e4, e5⟩ := h4.get e2
    refine ⟨⟨vs, v, .of h3, e4⟩, fun w H' ⟨hH, y⟩ => ?_⟩
    subst hH
    have e6 := y vs (.of h3)
    rw [e4] at e6
    cases e6
    exact ⟨.refl _ _, R, e5⟩
theorem Wk.eseq_ok {a : Addr} {i0 n : Nat} (h : r[i0]? = some a) : ItOk K mg wd r H (Ite K a) (.eseq i0) n where
  stop := fun i r1 g1 H1 x R e => by
    have e : ((lsOf g1 i0).map fun xs => xs[i]?.map fun x => D.tup [.int i, x]) = some none := e
    obtain ⟨xs, e1, e2⟩ := Option.map_eq_some_iff.mp e
    have e2 : xs[i]? = none := Option.map_eq_none_iff.mp e2
    obtain ⟨p, vs, _, ep, h3, h4⟩ := R.lst e1 (.ref (x.get h))
    cases ep
    exact ⟨vs, .of h3, by rw [h4.length]; exact List.getElem?_eq_none_iff.mp e2⟩
  go := fun i r1 g1 H1 d x R e => by
    have e : ((lsOf g1 i0).map fun xs => xs[i]?.map fun x => D.tup [.int i, x]) = some (some d) := e
    obtain ⟨xs, e1, e2⟩ := Option.map_eq_some_iff.mp e
    obtain ⟨d0, e8, ed⟩ := Option.map_eq_some_iff.mp e2
    subst ed
    obtain ⟨p, vs, _, ep, h3, h4⟩ := R.lst e1 (.ref (x.get h))
    cases ep
    obtain ⟨v, e4, e5⟩ := h4.get e8
    refine ⟨⟨vs, v, .of h3, e4⟩, fun w H' ⟨T, u, ew, hT, hH, y⟩ => ?_⟩
    subst ew hH
    have e6 := y vs (.of h3)
    rw [e4] at e6
    cases e6
    exact ⟨.new hT, R.beside hT, .tup (.of upd_same) (.cons .int (.cons (VR.mono (.new hT) _ _ e5) (VRs.nil_iff.mpr rfl)))⟩
theorem Wk.rng_ok {lo st : Int} {n : Nat} : ItOk K mg wd r H (Itc lo st n) (.rng lo st) n where
  stop := fun i r1 g1 H1 x R e => by
    have e : some (if i < n then some (D.int (lo + st * i)) else none) = some none := e
    have e := Option.some.inj e
    split at e
    · cases e
    · rename_i hl
      exact Nat.le_of_not_lt hl
  go := fun i r1 g1 H1 d x R e => by
    have e : some (if i < n then some (D.int (lo + st * i)) else none) = some (some d) := e
    have e := Option.some.inj e
    split at e
    · rename_i hl
      cases e
      refine ⟨hl, fun w H' ⟨hH, y⟩ => ?_⟩
      subst hH y
      refine ⟨.refl _ _, R, ?_⟩
      rw [Int.mul_comm st]
      exact .int
    · cases e
theorem Wk.rng1_ok {n : Nat} : ItOk K mg wd r H (Itr 0 n) (.rng 0 1) n where
  stop := fun i r1 g1 H1 x R e => (Wk.rng_ok (lo := 0) (st := 1) (n := n)).stop i r1 g1 H1 x R e
  go := fun i r1 g1 H1 d x R e => by
    obtain ⟨h1, h2⟩ := (Wk.rng_ok (lo := 0) (st := 1) (n := n)).go i r1 g1 H1 d x R e
    exact ⟨h1, fun v H' ⟨hH, y⟩ => h2 v H' ⟨hH, by rw [y, Int.mul_one]⟩⟩
end
section
variable {X : L2.Cx} {ck : Arguments → List Stmt → Scope → FDef → Bool} {c : Cx} {N : List String} {sc : Scope} {E : L2.St → XK} {r : List Addr} {H : Hp} {g : G} {pins : List (Addr × Obj)} {s : Shared} {σ : L2.St} {v : V} {e : Env}
/-- what an expression's outcome says to a reading -/
theorem LE.to {m : Env → G → Uk.R D} (R : Rel X.K X.mg X.w r g H) (er : ER X.K r H e σ) {Q : VK} (hp : Post X.K X.mg X.w (E σ) r H (m e g) Q) : LE X E m σ H Q := ⟨r, g, e, R, er, hp⟩
theorem PostI.exc {m : Uk.R D} {k : D → G → Uk.R (Nat × Wk)} {Rr : L2.It → Hp → Prop} {x : Exn} {g1 : G} {Q : VK} (hm : m = .exc x g1) (hp : PostI X.K X.mg X.w (E σ) r H (m.bind k) Rr) : Post X.K X.mg X.w (E σ) r H m Q := by
  subst hm
  exact hp
theorem PostI.bad {m : Uk.R D} {k : D → G → Uk.R (Nat × Wk)} {Rr : L2.It → Hp → Prop} (hm : m = .bad) (hp : PostI X.K X.mg X.w (E σ) r H (m.bind k) Rr) : False := by
  subst hm
  exact hp
/-- for x in e -/
theorem pi_seqD {tg p : PySem.Expr} {m : Env → G → Uk.R D} (ha : PE X p (LE X E m)) : PI X tg p (LI X E fun e g => (m e g).bind fun x g => match walkOf x g with
    | some w => .ok w g
    | none => .bad) := by
  refine ⟨fun pins s σ H Rr I ⟨r, g, e, R, er, hp⟩ => ?_⟩
  cases hm : m e g with
  | bad => exact (PostI.bad hm hp).elim
  | exc x g1 => exact (pi_list (tg := tg) ha).run pins s σ H Rr I (LE.to R er (PostI.exc hm hp))
  | ok d g1 =>
    have hp : PostI X.K X.mg X.w (E σ) r H ((m e g).bind _) Rr := hp
    rw [hm] at hp
    have hp : PostI X.K X.mg X.w (E σ) r H (match walkOf d g1 with
      | some w => .ok w g1
      | none => .bad) Rr := hp
    cases d with
    | tup xs =>
      refine (pi_tup (tg := tg) ha).run pins s σ H Rr I (LE.to R er ?_)
      rw [hm]
      intro r' v H' x R' q
      obtain ⟨a, vs, rfl, h1, h2⟩ := q.tup_inv
      exact ⟨a, rfl, ⟨vs, h1⟩, hp r' H' _ x R' (Wk.tup_ok h1 h2)⟩
    | fro xs =>
      refine (pi_list (tg := tg) ha).run pins s σ H Rr I (LE.to R er ?_)
      rw [hm]
      intro r' v H' x R' q
      obtain ⟨a, vs, rfl, h1, h2⟩ := q.fro_inv
      exact ⟨a, rfl, ⟨vs, h1.sq⟩, hp r' H' _ x R' (Wk.fro_ok h1 h2)⟩
    | ref i =>
      refine (pi_list (tg := tg) ha).run pins s σ H Rr I (LE.to R er ?_)
      rw [hm]
      intro r' v H' x R' q
      unfold walkOf at hp
      dsimp only at hp
      cases hl : lsOf g1 i with
      | none => rw [hl] at hp; exact hp.elim
      | some xs =>
        rw [hl] at hp
        obtain ⟨a, vs, ea, rfl, h3, h4⟩ := R'.lst hl q
        exact ⟨a, rfl, ⟨vs, .of h3⟩, hp r' H' _ x R' (Wk.seq_ok ea)⟩
    | _ => exact hp.elim
/-- an argument alone -/
theorem pa1 {p : PySem.Expr} {t : TE} (hpl : plainP p = true) (h : PE X p t) : PA X [p] (tCons t tNil) := pa_cons h pa_nil (star_plain hpl)
theorem star1 {p : PySem.Expr} (hpl : plainP p = true) : starEach [p] X.env = [(false, eval p X.env)] := by rw [star_plain hpl]; rfl
theorem pi_enumD {p : PySem.Expr} {elts : List PySem.Expr} {kk : Nat} {tpos p1 pos : Pos} {m : Env → G → Uk.R D} (O : XOk X ck c N sc E) (hg : glB sc (sS "enumerate") = true) (hpl : plainP p = true) (ha : PE X p (LE X E m)) :
    PI X (.Tuple elts kk tpos) (.Call (.Name (sS "enumerate") p1) [p] [] pos) (LI X E fun e g => (m e g).bind fun x g => match enumOf x g with
    | some w => .ok w g
    | none => .bad) := by
  obtain ⟨gl, nd, nn⟩ := pe_callD.gl_of O hg
  have hm0 := O.gf.blt "enumerate" (by simp [bnames])
  have P1 := pi_enum (elts := elts) (kk := kk) (tpos := tpos) (p := p1) (pos := pos) gl hm0 (pa1 hpl ha) (star1 hpl)
  have P2 := pi_enumT (elts := elts) (kk := kk) (tpos := tpos) (p := p1) (pos := pos) gl hm0 (pa1 hpl ha) (star1 hpl)
  refine ⟨fun pins s σ H Rr I ⟨r, g, e, R, er, hp⟩ => ?_⟩
  cases hm : m e g with
  | bad => exact (PostI.bad hm hp).elim
  | exc x g1 => exact P1.run pins s σ H Rr I (LE.to R er (PostI.exc hm hp))
  | ok d g1 =>
    have hp : PostI X.K X.mg X.w (E σ) r H ((m e g).bind _) Rr := hp
    rw [hm] at hp
    have hp : PostI X.K X.mg X.w (E σ) r H (match enumOf d g1 with
      | some w => .ok w g1
      | none => .bad) Rr := hp
    cases d with
    | tup xs =>
      refine P2.run pins s σ H Rr I (LE.to R er ?_)
      rw [hm]
      intro r' v H' x R' q
      obtain ⟨a, vs, rfl, h1, h2⟩ := q.tup_inv
      exact ⟨a, vs, rfl, h1, hp r' H' _ x R' (Wk.etup_ok h1 h2)⟩
    | ref i =>
      refine P1.run pins s σ H Rr I (LE.to R er ?_)
      rw [hm]
      intro r' v H' x R' q
      unfold enumOf at hp
      dsimp only at hp
      cases hl : lsOf g1 i with
      | none => rw [hl] at hp; exact hp.elim
      | some xs =>
        rw [hl] at hp
        obtain ⟨a, vs, ea, rfl, h3, h4⟩ := R'.lst hl q
        exact ⟨a, vs, rfl, .of h3, hp r' H' _ x R' (Wk.eseq_ok ea)⟩
    | _ => exact hp.elim
theorem pi_r1D {tg p : PySem.Expr} {p1 pos : Pos} {m : Env → G → Uk.R D} (O : XOk X ck c N sc E) (hg : glB sc (sS "range") = true) (hpl : plainP p = true) (ha : PE X p (LE X E m)) :
    PI X tg (.Call (.Name (sS "range") p1) [p] [] pos) (LI X E fun e g => (m e g).bind fun x g => match rng1 x with
    | some w => .ok w g
    | none => .bad) := by
  obtain ⟨gl, nd, nn⟩ := pe_callD.gl_of O hg
  have P1 := pi_range1 (tg := tg) (p := p1) (pos := pos) gl (O.gf.blt "range" (by simp [bnames])) (pa1 hpl ha) (star1 hpl)
  refine ⟨fun pins s σ H Rr I ⟨r, g, e, R, er, hp⟩ => ?_⟩
  cases hm : m e g with
  | bad => exact (PostI.bad hm hp).elim
  | exc x g1 => exact P1.run pins s σ H Rr I (LE.to R er (PostI.exc hm hp))
  | ok d g1 =>
    have hp : PostI X.K X.mg X.w (E σ) r H ((m e g).bind _) Rr := hp
    rw [hm] at hp
    have hp : PostI X.K X.mg X.w (E σ) r H (match rng1 d with
      | some w => .ok w g1
      | none => .bad) Rr := hp
    cases d with
    | int j =>
      unfold rng1 at hp
      dsimp only at hp
      split at hp
      · rename_i w hw
        split at hw
        · rename_i hj
          cases hw
          refine P1.run pins s σ H Rr I (LE.to R er ?_)
          rw [hm]
          intro r' v H' x R' q
          rw [q.int_inv]
          exact ⟨j, rfl, by omega, by omega, hp r' H' _ x R' Wk.rng1_ok⟩
        · cases hw
      · exact hp.elim
    | _ => exact hp.elim
end
end Uk
end
section
set_option Elab.async false
set_option linter.all false
set_option maxRecDepth 100000
set_option autoImplicit false
set_option maxHeartbeats 1000000
namespace Uk
open PySem PySem.Spec PyProof.Rows L2
/-! ## Targets -/
/-- slots are set, one after another -/
def sAll (σ : L2.St) : List Nat → List V → L2.St
  | i :: is, v :: vs => sAll (σ.set i (some v)) is vs
  | _, _ => σ
def TgOk (X : L2.Cx) (sc : Scope) : Prop := ∀ x, (sc.names.lookup x = some .local → Loc X.env.scope x ∧ (X.fn x = true ∨ X.env.scope.names.lookup x = some .local)) ∧
  (sc.names.lookup x = some .cell → Loc X.env.scope x ∧ (X.fn x = true ∨ X.env.scope.names.lookup x = some .local))
def GD (X : L2.Cx) (t : Tg) : TG := fun v σ H Q => ∃ (r : List Addr) (g : G) (d : D) (e e' : Env), Rel X.K X.mg X.w r g H ∧ ER X.K r H e σ ∧ VR X.K r H d v ∧ bindT t d e = some e' ∧
  ∀ us, us.length = (tgIx t).length → ER X.K r H e' (sAll σ (tgIx t) us) → Q (sAll σ (tgIx t) us) H
def GDs (l : List Nat) : TGs := fun vs σ H Q => vs.length = l.length ∧ Q (sAll σ l vs) H
section
variable {X : L2.Cx} {N : List String} {sc : Scope} {r : List Addr} {H : Hp} {σ : L2.St} {e : Env}
theorem tgB_get {i : Nat} {x : Str} (hN : X.N = N.map sS) (T : TgOk X sc) (h : tgB N sc i x = true) : X.N[i]? = some x ∧ Loc X.env.scope x ∧ (X.fn x = true ∨ X.env.scope.names.lookup x = some .local) := by
  unfold tgB at h
  rw [Bool.and_eq_true] at h
  refine ⟨?_, ?_⟩
  · have h1 := h.1
    unfold ckN at h1
    split at h1
    · rename_i s hs
      rw [hN, List.getElem?_map, hs, ← of_decide_eq_true h1]
      rfl
    · cases h1
  · have h2 := h.2
    split at h2
    · rename_i q; exact (T x).1 q
    · rename_i q; exact (T x).2 q
    · cases h2
theorem assignEach_names : ∀ {l : List Nat} {ps : List PySem.Expr}, ckTs N sc l ps = true → ps.length = l.length ∧ (assignEach ps X.env).length = ps.length ∧ (assignEach ps X.env).findIdx? (·.1) = none
  | [], [], _ => ⟨rfl, rfl, rfl⟩
  | [], _ :: _, h => by cases h
  | _ :: _, [], h => by cases h
  | i :: is, p :: ps, h => by
    cases p with
    | Name x pos =>
      have h : (tgB N sc i x && ckTs N sc is ps) = true := h
      rw [Bool.and_eq_true] at h
      obtain ⟨h1, h2, h3⟩ := assignEach_names h.2
      have e : assignEach (.Name x pos :: ps) X.env = (false, assign (.Name x pos) X.env) :: assignEach ps X.env := rfl
      refine ⟨by simp [h1], by rw [e]; simp [h2], ?_⟩
      rw [e, List.findIdx?_cons, h3]
      rfl
    | _ => cases h
theorem pgs_names (hN : X.N = N.map sS) (nd : X.N.Nodup) (T : TgOk X sc) : ∀ {l : List Nat} {ps : List PySem.Expr}, ckTs N sc l ps = true → PGs X ps (GDs l)
  | [], [], _ => ⟨fun pins s σ H vs us Q I r ⟨h1, h2⟩ => pgs_nil.run pins s σ H vs us Q I r ⟨List.length_eq_zero_iff.mp h1, by
      rw [List.length_eq_zero_iff.mp h1] at h2
      exact h2⟩⟩
  | [], _ :: _, h => by cases h
  | _ :: _, [], h => by cases h
  | i :: is, p :: ps, h => by
    cases p with
    | Name x pos =>
      have h : (tgB N sc i x && ckTs N sc is ps) = true := h
      rw [Bool.and_eq_true] at h
      obtain ⟨h1, h2, h3⟩ := tgB_get hN T h.1
      refine ⟨fun pins s σ H vs us Q I r ⟨hl, hq⟩ => (pgs_cons (pg_name (pos := pos) nd h1 h2 h3) (pgs_names hN nd T h.2)).run pins s σ H vs us Q I r ?_⟩
      cases vs with
      | nil => cases hl
      | cons v q => exact ⟨v, q, rfl, by simpa using hl, hq⟩
    | _ => cases h
theorem ER.setAll : ∀ {l : List Nat} {ds : List D} {vs : List V} {e e' : Env} {σ : L2.St}, ER X.K r H e σ → VRs X.K r H ds vs → setAll e l ds = some e' → ER X.K r H e' (sAll σ l vs)
  | [], [], vs, e, e', σ, h, q, z => by
    cases z
    rw [VRs.nil_iff.mp q]
    exact h
  | [], _ :: _, _, _, _, _, _, _, z => by cases z
  | _ :: _, [], _, _, _, _, _, _, z => by cases z
  | i :: is, d :: ds, vs, e, e', σ, h, q, z => by
    obtain ⟨v, w, rfl, q1, q2⟩ := q.inv
    have z : Uk.setAll (e.set i (some d)) is ds = some e' := z
    show ER X.K r H e' (sAll (σ.set i (some v)) is w)
    exact ER.setAll (h.set i q1) q2 z
theorem setAll_len : ∀ {l : List Nat} {ds : List D} {e e' : Env}, setAll e l ds = some e' → ds.length = l.length
  | [], [], _, _, _ => rfl
  | [], _ :: _, _, _, z => by cases z
  | _ :: _, [], _, _, z => by cases z
  | i :: is, d :: ds, e, e', z => by
    have := setAll_len (l := is) (ds := ds) z
    simp [this]
theorem pg_tg (hc : X.calm = true) (hN : X.N = N.map sS) (nd : X.N.Nodup) (T : TgOk X sc) {t : Tg} {p : PySem.Expr} (h : ckT N sc t p = true) : PG X p (GD X t) := by
  cases t with
  | one i =>
    cases p with
    | Name x pos =>
      obtain ⟨h1, h2, h3⟩ := tgB_get (i := i) hN T h
      refine ⟨fun pins s σ H v u Q I r ⟨rr, g, d, e, e', R, er, q, z, hq⟩ => (pg_name (pos := pos) nd h1 h2 h3).run pins s σ H v u Q I r ?_⟩
      cases z
      exact hq [v] rfl (er.set i q)
    | _ => cases h
  | many l =>
    cases p with
    | Tuple ps k pos =>
      have h : ckTs N sc l ps = true := h
      obtain ⟨a1, a2, a3⟩ := assignEach_names (X := X) h
      refine ⟨fun pins s σ H v u Q I r ⟨rr, g, d, e, e', R, er, q, z, hq⟩ => (pg_tup (k := k) (pos := pos) (n := l.length) hc (pgs_names hN nd T h) (a2.trans a1) a3).run pins s σ H v u Q I r ?_⟩
      cases d with
      | tup ds =>
        obtain ⟨a, vs, rfl, q1, q2⟩ := q.tup_inv
        have z : setAll e l ds = some e' := z
        have hl : vs.length = l.length := by rw [q2.length]; exact setAll_len z
        exact ⟨a, vs, rfl, q1, hl, hl, hq vs hl (er.setAll q2 z)⟩
      | _ => cases z
    | _ => cases h
/-! ## Slots forgotten -/
theorem wipe_get : ∀ (vs : List Nat) (σ : L2.St) (j : Nat), (L2.wipe σ vs)[j]? = if j ∈ vs then (σ[j]?).map fun _ => none else σ[j]?
  | [], σ, j => by unfold L2.wipe; simp
  | v :: vs, σ, j => by
    unfold L2.wipe
    rw [List.getElem?_set]
    by_cases hj : v = j
    · subst hj
      rw [if_pos rfl, wipe_length]
      by_cases hl : v < σ.length
      · rw [if_pos hl, if_pos List.mem_cons_self, List.getElem?_eq_getElem hl]
        rfl
      · rw [if_neg hl, if_pos List.mem_cons_self, List.getElem?_eq_none (Nat.le_of_not_lt hl)]
        rfl
    · rw [if_neg hj, wipe_get vs σ j]
      by_cases hm : j ∈ vs
      · rw [if_pos hm, if_pos (List.mem_cons_of_mem _ hm)]
      · rw [if_neg hm, if_neg]
        intro h
        rcases List.mem_cons.mp h with z | z
        · exact hj z.symm
        · exact hm z
theorem wipe_idem (vs : List Nat) (σ : L2.St) : L2.wipe (L2.wipe σ vs) vs = L2.wipe σ vs := by
  refine List.ext_getElem? fun j => ?_
  rw [wipe_get, wipe_get]
  split
  · cases σ[j]? <;> rfl
  · rfl
theorem wipe_set {vs : List Nat} {i : Nat} (hi : i ∈ vs) (σ : L2.St) (v : Option V) : L2.wipe (σ.set i v) vs = L2.wipe σ vs := by
  refine List.ext_getElem? fun j => ?_
  rw [wipe_get, wipe_get, List.getElem?_set]
  split
  · by_cases hj : i = j
    · subst hj
      rw [if_pos rfl]
      by_cases hl : i < σ.length
      · rw [if_pos hl, List.getElem?_eq_getElem hl]
        rfl
      · rw [if_neg hl, List.getElem?_eq_none (Nat.le_of_not_lt hl)]
    · rw [if_neg hj]
  · rename_i hm
    rw [if_neg (show ¬ i = j from fun z => hm (z ▸ hi))]
theorem wipe_sAll {vs : List Nat} : ∀ {l : List Nat} {us : List V} {σ : L2.St}, (∀ i ∈ l, i ∈ vs) → L2.wipe (sAll σ l us) vs = L2.wipe σ vs
  | [], us, σ, _ => by unfold sAll; rfl
  | i :: is, [], σ, _ => by unfold sAll; rfl
  | i :: is, u :: us, σ, h => by
    unfold sAll
    rw [wipe_sAll fun j hj => h j (List.mem_cons_of_mem _ hj), wipe_set (h i List.mem_cons_self)]
end
/-! ## Comprehensions -/
def compTurn (mc me : Env → G → Uk.R D) (tg : Tg) (vs : List Nat) (δ : Env) (x : D) (g : G) : Uk.R (Option D) := match bindT tg x (Uk.wipe δ vs) with
  | none => .bad
  | some δ => (mc δ g).bind fun t g => match t with
    | .bl true => (me δ g).bind fun y g => .ok (some y) g
    | .bl false => .ok none g
    | _ => .bad
def compD (mi : Env → G → Uk.R (Nat × Wk)) (mc me : Env → G → Uk.R D) (tg : Tg) (vs : List Nat) (δ : Env) (g : G) : Uk.R D :=
  (mi δ g).bind fun w g => (compL w.2 w.1 g.length (compTurn mc me tg vs δ) w.1 0 (g ++ [.lst []])).bind fun _ g' => .ok (.ref g.length) g'
theorem compL_exc {w : Wk} {n p : Nat} {turn : D → G → Uk.R (Option D)} : ∀ (k i : Nat) (g : G) {x : Exn} {g' : G}, compL w n p turn k i g ≠ .exc x g'
  | 0, i, g, x, g', h => by
    unfold compL at h
    split at h <;> cases h
  | k + 1, i, g, x, g', h => by
    unfold compL at h
    split at h
    · split at h
      · exact compL_exc k _ _ h
      · split at h
        · split at h
          · exact compL_exc k _ _ h
          · cases h
        · cases h
      · cases h
    · cases h
section
variable {X : L2.Cx} {E : L2.St → XK} {r : List Addr} {H : Hp} {σ : L2.St} {e : Env} {g : G} {Q : VK}
abbrev E0' : L2.St → XK := fun _ _ _ _ => False
/-- the reading of a comprehension holds by the interpreter's turns -/
theorem lc_reads {K : PySem.W.Frag} {mg : Str → Option Value} {wd : World} (hK : X.K = K) (hm : X.mg = mg) (hw : X.w = wd) {mi : Env → G → Uk.R (Nat × Wk)} {mc me : Env → G → Uk.R D} {tg : Tg} {vs : List Nat} (htg : ∀ i ∈ tgIx tg, i ∈ vs)
    {gg : TG} {tt : TT} {te : TE}
    (hgg : ∀ v σ H Q, GD X tg v σ H Q → gg v σ H Q)
    (htt : ∀ σ H Q, (∃ (r : List Addr) (g : G) (e : Env), Rel X.K X.mg X.w r g H ∧ ER X.K r H e σ ∧ Post X.K X.mg X.w (E0' σ) r H (mc e g) fun v H' => ∃ b, v = .bl b ∧ Q b H') → tt σ H Q)
    (hte : ∀ σ H Q, (∃ (r : List Addr) (g : G) (e : Env), Rel X.K X.mg X.w r g H ∧ ER X.K r H e σ ∧ Post X.K X.mg X.w (E0' σ) r H (me e g) Q) → te σ H Q)
    (R : Rel X.K X.mg X.w r g H) (er : ER X.K r H e σ) (hp : Post X.K X.mg X.w (E σ) r H (compD mi mc me tg vs e g) Q) : tLc (LI X E mi) gg tt te vs σ H Q := by
  refine ⟨r, g, e, R, er, ?_⟩
  unfold compD at hp
  cases hmi : mi e g with
  | bad => rw [hmi] at hp; exact hp.elim
  | exc x g1 => rw [hmi] at hp; exact hp
  | ok w g1 =>
    rw [hmi] at hp
    obtain ⟨n, w⟩ := w
    have hp : Post X.K X.mg X.w (E σ) r H ((compL w n g1.length (compTurn mc me tg vs e) n 0 (g1 ++ [.lst []])).bind fun _ g' => .ok (.ref g1.length) g') Q := hp
    intro r1 H1 J x1 R1 io D hD
    cases hcl : compL w n g1.length (compTurn mc me tg vs e) n 0 (g1 ++ [.lst []]) with
    | bad => rw [hcl] at hp; exact hp.elim
    | exc y g2 => exact absurd hcl (compL_exc _ _ _)
    | ok u gf =>
      rw [hcl] at hp
      have hp : Post X.K X.mg X.w (E σ) r H (.ok (.ref g1.length) gf) Q := hp
      have xD : Ext r1 H1 (r1 ++ [D]) (upd H1 D (.lst [])) := .newR hD
      have eD : (r1 ++ [D])[g1.length]? = some D := by rw [← R1.len]; exact get_last
      refine ⟨fun i m H2 => ∃ (r2 : List Addr) (g2 : G), Ext (r1 ++ [D]) (upd H1 D (.lst [])) r2 H2 ∧ Rel X.K X.mg X.w r2 g2 H2 ∧ compL w n g1.length (compTurn mc me tg vs e) m i g2 = .ok u gf, ⟨n, r1 ++ [D], g1 ++ [.lst []], .refl _ _, R1.new (o := .lst []) hD ⟨[], upd_same, VRs.nil_iff.mpr rfl⟩, hcl⟩, ?_⟩
      rintro i m H2 ⟨r2, g2, x2, R2, hc2⟩
      have x12 : Ext r1 H1 r2 H2 := xD.trans x2
      have eD2 : r2[g1.length]? = some D := x2.get eD
      cases m with
      | zero =>
        unfold compL at hc2
        split at hc2
        · rename_i hit
          cases hc2
          exact .inl ⟨io.stop i r2 _ H2 x12 R2 hit, hp r2 _ H2 (x1.trans x12) R2 (.ref eD2)⟩
        · cases hc2
      | succ m =>
        unfold compL at hc2
        split at hc2
        · rename_i d hit
          obtain ⟨go, yl⟩ := io.go i r2 g2 H2 d x12 R2 hit
          refine .inr ⟨go, fun H' => ∃ (r' : List Addr) (g' : G), Ext (r1 ++ [D]) (upd H1 D (.lst [])) r' H' ∧ Rel X.K X.mg X.w r' g' H' ∧ compL w n g1.length (compTurn mc me tg vs e) m (i + 1) g' = .ok u gf,
            fun H' ⟨r', g', a, b, c⟩ => ⟨m, Nat.lt_succ_self m, r', g', a, b, c⟩, fun v H3 hy => hgg _ _ _ _ ?_⟩
          obtain ⟨x3, R3, q3⟩ := yl v H3 hy
          have er3 : ER X.K r2 H3 (Uk.wipe e vs) (L2.wipe σ vs) := ((er.mono (x1.trans x12)).wipe vs).mono x3
          unfold compTurn at hc2
          cases hb : bindT tg d (Uk.wipe e vs) with
          | none => rw [hb] at hc2; cases hc2
          | some e3 =>
          rw [hb] at hc2
          refine ⟨r2, g2, d, _, e3, R3, er3, q3, hb, fun us hl er4 => ⟨by rw [wipe_sAll htg, wipe_idem], htt _ _ _ ⟨r2, g2, e3, R3, er4, ?_⟩⟩⟩
          cases hmc : mc e3 g2 with
          | bad => simp only [hmc, Uk.R.bind] at hc2; cases hc2
          | exc y g4 => simp only [hmc, Uk.R.bind] at hc2; cases hc2
          | ok t g4 =>
            simp only [hmc, Uk.R.bind] at hc2
            intro r5 v5 H5 x5 R5 q5
            cases t with
            | bl b =>
              refine ⟨b, q5.bl_inv, ?_⟩
              cases b with
              | false =>
                rw [if_neg (by simp)]
                exact ⟨r5, g4, x2.trans (x3.trans x5), R5, hc2⟩
              | true =>
                rw [if_pos rfl]
                refine hte _ _ _ ⟨r5, g4, e3, R5, er4.mono x5, ?_⟩
                cases hme : me e3 g4 with
                | bad => simp only [hme] at hc2; cases hc2
                | exc y g6 => simp only [hme] at hc2; cases hc2
                | ok yv g6 =>
                  simp only [hme] at hc2
                  intro r7 v7 H7 x7 R7 q7
                  have e7 : r7[g1.length]? = some D := (x3.trans (x5.trans x7)).get eD2
                  obtain ⟨o, ho, oo⟩ := R7.get e7
                  rw [ho] at hc2
                  cases o with
                  | lst acc =>
                    dsimp only at hc2
                    split at hc2
                    · rename_i hl2
                      obtain ⟨ws, h1, h2⟩ := oo
                      refine ⟨ws, h1, by rw [h2.length, ← line_eq]; exact hl2, r7, g6.set g1.length (.lst (acc ++ [yv])), (x2.trans (x3.trans (x5.trans x7))).trans (.put h1 trivial), ?_, hc2⟩
                      exact R7.put e7 h1 trivial (lst_put (xs := acc) h1 (h2.append (.cons q7 (VRs.nil_iff.mpr rfl))))
                    · cases hc2
                  | _ => cases hc2
            | _ => cases hc2
        · cases hc2
end
end Uk
end
section
set_option Elab.async false
set_option linter.all false
set_option maxRecDepth 100000
set_option autoImplicit false
set_option maxHeartbeats 1000000
namespace Uk
open PySem PySem.Spec PyProof.Rows L2
section
variable {X : L2.Cx} {ck : Arguments → List Stmt → Scope → FDef → Bool} {c : Cx} {N : List String} {sc : Scope} {E : L2.St → XK} {r : List Addr} {H : Hp} {g : G} {Q : VK} {σ : L2.St} {e : Env}
/-! ## Readings, joined -/
theorem LE.bind {m : Env → G → Uk.R D} (R : Rel X.K X.mg X.w r g H) (er : ER X.K r H e σ) {k : D → G → Uk.R D} (hp : Post X.K X.mg X.w (E σ) r H ((m e g).bind k) Q) {Q' : VK}
    (next : ∀ (r1 : List Addr) (g1 : G) (H1 : Hp) (d : D) (v : V), Ext r H r1 H1 → Rel X.K X.mg X.w r1 g1 H1 → ER X.K r1 H1 e σ → VR X.K r1 H1 d v → Post X.K X.mg X.w (E σ) r1 H1 (k d g1) Q → Q' v H1) : LE X E m σ H Q' := by
  refine ⟨r, g, e, R, er, ?_⟩
  cases hm : m e g with
  | ok d g1 =>
    rw [hm] at hp
    have hp : Post X.K X.mg X.w (E σ) r H (k d g1) Q := hp
    exact fun r' v H' x R' q => next r' g1 H' d v x R' (er.mono x) q (hp.ext x)
  | exc y g1 => rw [hm] at hp; exact hp
  | bad => rw [hm] at hp; exact hp.elim
theorem PostA.ext {m : Uk.R (List D)} {Q : List V → Hp → Prop} {r1 : List Addr} {H1 : Hp} (h : PostA X.K X.mg X.w (E σ) r H m Q) (x : Ext r H r1 H1) : PostA X.K X.mg X.w (E σ) r1 H1 m Q := by
  cases m with
  | ok d g => exact fun r' v H' y R q => h r' v H' (x.trans y) R q
  | exc e g => exact fun r' H' c d y R q => h r' H' c d (x.trans y) R q
  | bad => exact h
theorem LE.bindA {m : Env → G → Uk.R D} (R : Rel X.K X.mg X.w r g H) (er : ER X.K r H e σ) {k : D → G → Uk.R (List D)} {Q : List V → Hp → Prop} (hp : PostA X.K X.mg X.w (E σ) r H ((m e g).bind k) Q) {Q' : VK}
    (next : ∀ (r1 : List Addr) (g1 : G) (H1 : Hp) (d : D) (v : V), Ext r H r1 H1 → Rel X.K X.mg X.w r1 g1 H1 → ER X.K r1 H1 e σ → VR X.K r1 H1 d v → PostA X.K X.mg X.w (E σ) r1 H1 (k d g1) Q → Q' v H1) : LE X E m σ H Q' := by
  refine ⟨r, g, e, R, er, ?_⟩
  cases hm : m e g with
  | ok d g1 =>
    rw [hm] at hp
    have hp : PostA X.K X.mg X.w (E σ) r H (k d g1) Q := hp
    exact fun r' v H' x R' q => next r' g1 H' d v x R' (er.mono x) q (hp.ext x)
  | exc y g1 => rw [hm] at hp; exact hp
  | bad => rw [hm] at hp; exact hp.elim
theorem LA.bind {m : Env → G → Uk.R (List D)} (R : Rel X.K X.mg X.w r g H) (er : ER X.K r H e σ) {k : List D → G → Uk.R D} (hp : Post X.K X.mg X.w (E σ) r H ((m e g).bind k) Q) {Q' : List V → Hp → Prop}
    (next : ∀ (r1 : List Addr) (g1 : G) (H1 : Hp) (ds : List D) (vs : List V), Ext r H r1 H1 → Rel X.K X.mg X.w r1 g1 H1 → ER X.K r1 H1 e σ → VRs X.K r1 H1 ds vs → Post X.K X.mg X.w (E σ) r1 H1 (k ds g1) Q → Q' vs H1) : LA X E m σ H Q' := by
  refine ⟨r, g, e, R, er, ?_⟩
  cases hm : m e g with
  | ok d g1 =>
    rw [hm] at hp
    have hp : Post X.K X.mg X.w (E σ) r H (k d g1) Q := hp
    exact fun r' v H' x R' q => next r' g1 H' d v x R' (er.mono x) q (hp.ext x)
  | exc y g1 => rw [hm] at hp; exact hp
  | bad => rw [hm] at hp; exact hp.elim
theorem LA.bindA {m : Env → G → Uk.R (List D)} (R : Rel X.K X.mg X.w r g H) (er : ER X.K r H e σ) {k : List D → G → Uk.R (List D)} {Q : List V → Hp → Prop} (hp : PostA X.K X.mg X.w (E σ) r H ((m e g).bind k) Q) {Q' : List V → Hp → Prop}
    (next : ∀ (r1 : List Addr) (g1 : G) (H1 : Hp) (ds : List D) (vs : List V), Ext r H r1 H1 → Rel X.K X.mg X.w r1 g1 H1 → ER X.K r1 H1 e σ → VRs X.K r1 H1 ds vs → PostA X.K X.mg X.w (E σ) r1 H1 (k ds g1) Q → Q' vs H1) : LA X E m σ H Q' := by
  refine ⟨r, g, e, R, er, ?_⟩
  cases hm : m e g with
  | ok d g1 =>
    rw [hm] at hp
    have hp : PostA X.K X.mg X.w (E σ) r H (k d g1) Q := hp
    exact fun r' v H' x R' q => next r' g1 H' d v x R' (er.mono x) q (hp.ext x)
  | exc y g1 => rw [hm] at hp; exact hp
  | bad => rw [hm] at hp; exact hp.elim
/-- a test's value -/
theorem LT.bind {m : Env → G → Uk.R D} (R : Rel X.K X.mg X.w r g H) (er : ER X.K r H e σ) {k : D → G → Uk.R D} (hp : Post X.K X.mg X.w (E σ) r H ((m e g).bind k) Q) {Q' : Bool → Hp → Prop} (hb : ∀ d g1, m e g = .ok d g1 → k d g1 ≠ .bad → ∃ b, d = .bl b)
    (next : ∀ (r1 : List Addr) (g1 : G) (H1 : Hp) (b : Bool), Ext r H r1 H1 → Rel X.K X.mg X.w r1 g1 H1 → ER X.K r1 H1 e σ → Post X.K X.mg X.w (E σ) r1 H1 (k (.bl b) g1) Q → Q' b H1) : LT X E m σ H Q' := by
  refine ⟨r, g, e, R, er, ?_⟩
  cases hm : m e g with
  | ok d g1 =>
    rw [hm] at hp
    have hp : Post X.K X.mg X.w (E σ) r H (k d g1) Q := hp
    have nb : k d g1 ≠ .bad := fun z => by rw [z] at hp; exact hp
    obtain ⟨b, rfl⟩ := hb d g1 hm nb
    exact fun r' v H' x R' q => ⟨b, q.bl_inv, next r' g1 H' b x R' (er.mono x) (hp.ext x)⟩
  | exc y g1 => rw [hm] at hp; exact hp
  | bad => rw [hm] at hp; exact hp.elim
/-! ## Expressions -/
def isBo (p : PySem.Expr) : Bool := match p with
  | .BoolOp _ _ _ => true
  | _ => false
/-- a test of the plain form -/
def plT (p : PySem.Expr) : Bool := match p with
  | .UnaryOp .Not _ _ => false
  | .BoolOp _ _ _ => false
  | .IfExp _ _ _ _ => false
  | .Compare _ _ _ _ => false
  | _ => true
structure OkE (X : L2.Cx) (E : L2.St → XK) (p : PySem.Expr) (m : Env → G → Uk.R D) : Prop where
  pe : PE X p (LE X E m)
  pt : PT X p (LT X E m)
  pw : isBo p = true → PW X p (LT X E m)
theorem OkE.of {p : PySem.Expr} {m : Env → G → Uk.R D} (hp : plT p = true) (h : PE X p (LE X E m)) : OkE X E p m := by
  refine ⟨h, ⟨fun pins s σ H Q I q => (pt_val h ?_).run pins s σ H Q I q⟩, fun z => ?_⟩
  · intro whole
    cases p <;> first
      | rfl
      | (rename_i o _ _; cases o <;> first | rfl | exact absurd hp Bool.false_ne_true)
      | exact absurd hp Bool.false_ne_true
  · cases p <;> first | exact absurd z Bool.false_ne_true | exact absurd hp Bool.false_ne_true
theorem nomarks {p : PySem.Expr} {op : CmpOp} (h : plainP p = true) : behindInMarks op p = false := by
  cases p <;> first | rfl | exact absurd h Bool.false_ne_true
theorem plainIx {p : PySem.Expr} (h : plainP p = true) : PlainIx p := by
  intro o i
  cases p <;> first | rfl | exact absurd h Bool.false_ne_true
/-- a name seen -/
theorem seen (O : XOk X ck c N sc E) {i : Nat} {x : Str} (h : (ckN N i x && visB sc x && nmB x) = true) : X.N[i]? = some x ∧ Vis X.env.scope x ∧ (x == ("__debug__" : Str)) = false ∧ (x == ("__classdict__" : Str)) = false := by
  rw [Bool.and_eq_true, Bool.and_eq_true] at h
  obtain ⟨⟨h1, h2⟩, h3⟩ := h
  unfold nmB at h3
  rw [Bool.and_eq_true, Bool.and_eq_true, Bool.not_eq_true', Bool.not_eq_true'] at h3
  refine ⟨?_, ?_, h3.1.1, h3.1.2⟩
  · unfold ckN at h1
    split at h1
    · rename_i s hs
      rw [O.nm, List.getElem?_map, hs, ← of_decide_eq_true h1]
      rfl
    · cases h1
  · unfold visB at h2
    rw [O.sc]
    split at h2
    · rename_i q; exact .inl q
    · rename_i q; exact .inr (.inl q)
    · rename_i q; exact .inr (.inr q)
    · cases h2
theorem ok_cst {d : D} {k : Const} {j : Nat} {pos : Pos} (h : ckC d k = true) : PE X (.Constant k j pos) (LE X E (ev c (.cst d))) := by
  refine ⟨fun pins s σ H Q I ⟨r, g, e, R, er, hp⟩ => ?_⟩
  have hp : Post X.K X.mg X.w (E σ) r H (.ok d g) Q := hp
  cases d with
  | non =>
    cases k with
    | none => exact pe_non.run pins s σ H Q I (hp.here R .non)
    | _ => cases h
  | bl a =>
    cases k with
    | bool b =>
      have h : (a == b) = true := h
      rw [eq_of_beq h] at hp
      exact pe_bl.run pins s σ H Q I (hp.here R .bl)
    | _ => cases h
  | int a =>
    cases k with
    | int b =>
      have h : a = b := of_decide_eq_true h
      rw [h] at hp
      exact pe_int.run pins s σ H Q I (hp.here R .int)
    | _ => cases h
  | str a =>
    cases k with
    | str b =>
      have h : sS a = b := of_decide_eq_true h
      subst h
      exact pe_str.run pins s σ H Q I (hp.here R .str)
    | _ => cases h
  | _ => cases k <;> cases h
theorem ok_loc (O : XOk X ck c N sc E) {i : Nat} {x : Str} {pos : Pos} (h : (ckN N i x && visB sc x && nmB x) = true) : PE X (.Name x pos) (LE X E (ev c (.loc i))) := by
  obtain ⟨h1, h2, h3, h4⟩ := seen O h
  refine ⟨fun pins s σ H Q I ⟨r, g, e, R, er, hp⟩ => ?_⟩
  have hp : Post X.K X.mg X.w (E σ) r H (match e[i]? with
    | some (some d) => .ok d g
    | _ => .bad) Q := hp
  split at hp
  · rename_i d hd
    obtain ⟨v, a, b⟩ := er.2 i d hd
    exact (pe_var h1 h2 h3 h4).run pins s σ H Q I ⟨v, a, hp.here R b⟩
  · exact hp.elim
theorem ok_glo (O : XOk X ck c N sc E) {x : String} {pos : Pos} (hg : glB sc (sS x) = true) (hc : (c.P.con x).isSome = true) : PE X (.Name (sS x) pos) (LE X E (ev c (.glo x))) := by
  obtain ⟨gl, nd, nn⟩ := pe_callD.gl_of O hg
  obtain ⟨d, hd⟩ := Option.isSome_iff_exists.mp hc
  obtain ⟨v, u, hm, ru, hv⟩ := O.gf.con x d hd
  refine ⟨fun pins s σ H Q I ⟨r, g, e, R, er, hp⟩ => ?_⟩
  have hp : Post X.K X.mg X.w (E σ) r H (match c.P.con x with
    | some d => .ok d g
    | none => .bad) Q := hp
  rw [hd] at hp
  exact (pe_glob gl hm ru nd).run pins s σ H Q I (Post.here hp R (hv r H))
theorem ok_tup {ps : List PySem.Expr} {k : Nat} {pos : Pos} {m : Env → G → Uk.R (List D)} (h : PA X ps (LA X E m)) : PE X (.Tuple ps k pos) (LE X E fun e g => (m e g).bind newT) := by
  refine ⟨fun pins s σ H Q I ⟨r, g, e, R, er, hp⟩ => (pe_tup h).run pins s σ H Q I (LA.bind R er hp fun r1 g1 H1 ds vs x R1 er1 q hp => ?_)⟩
  unfold newT at hp
  split at hp
  · rename_i hl
    exact ⟨by rw [q.length, ← line_eq]; exact hl, fun p hpn => hp.newTup R1 q hpn⟩
  · exact hp.elim
theorem ok_lst {ps : List PySem.Expr} {pos : Pos} {m : Env → G → Uk.R (List D)} (h : PA X ps (LA X E m)) : PE X (.List ps pos) (LE X E fun e g => (m e g).bind newL) := by
  refine ⟨fun pins s σ H Q I ⟨r, g, e, R, er, hp⟩ => (pe_lst h).run pins s σ H Q I (LA.bind R er hp fun r1 g1 H1 ds vs x R1 er1 q hp => ?_)⟩
  unfold newL at hp
  split at hp
  · rename_i hl
    exact ⟨by rw [q.length, ← line_eq]; exact hl, fun p hpn => hp.newLst R1 q hpn⟩
  · exact hp.elim
theorem ok_bin {o : Bop} {a b : PySem.Expr} {pos : Pos} {ma mb : Env → G → Uk.R D} (ha : PE X a (LE X E ma)) (hb : PE X b (LE X E mb)) : PE X (.BinOp a (bopOp o) b pos) (LE X E fun e g => (ma e g).bind fun x g => (mb e g).bind fun y g => binop o x y g) :=
  ⟨fun pins s σ H Q I ⟨r, g, e, R, er, hp⟩ => (pe_op (opr_bin (E := E σ)) ha hb).run pins s σ H Q I (LE.bind R er hp fun r1 g1 H1 d1 v1 x1 R1 er1 q1 hp => LE.bind R1 er1 hp fun r2 g2 H2 d2 v2 x2 R2 er2 q2 hp => ⟨trivial, r2, g2, d1, d2, R2, VR.mono x2 _ _ q1, q2, hp⟩)⟩
theorem ok_neg {a : PySem.Expr} {pos : Pos} {ma : Env → G → Uk.R D} (ha : PE X a (LE X E ma)) : PE X (.UnaryOp .USub a pos) (LE X E fun e g => (ma e g).bind fun x g => match x with
    | .int i => .ok (.int (-i)) g
    | _ => .bad) := by
  refine ⟨fun pins s σ H Q I ⟨r, g, e, R, er, hp⟩ => (pe_un un_neg ha).run pins s σ H Q I (LE.bind R er hp fun r1 g1 H1 d1 v1 x1 R1 er1 q1 hp => ?_)⟩
  cases d1 with
  | int i => exact ⟨i, q1.int_inv, Post.here hp R1 .int⟩
  | _ => exact hp.elim
theorem ok_ix (hu : X.A.units + 200 < cLine) {a b : PySem.Expr} {pos : Pos} {ma mb : Env → G → Uk.R D} (hpl : plainP b = true) (ha : PE X a (LE X E ma)) (hb : PE X b (LE X E mb)) : PE X (.Subscript a b pos) (LE X E fun e g => (ma e g).bind fun x g => (mb e g).bind fun y g => getIx x y g) :=
  ⟨fun pins s σ H Q I ⟨r, g, e, R, er, hp⟩ => (pe_ix (ixr_ok (E := E σ) hu) ha hb (plainIx hpl)).run pins s σ H Q I (LE.bind R er hp fun r1 g1 H1 d1 v1 x1 R1 er1 q1 hp => LE.bind R1 er1 hp fun r2 g2 H2 d2 v2 x2 R2 er2 q2 hp => ⟨trivial, r2, g2, d1, d2, R2, VR.mono x2 _ _ q1, q2, hp⟩)⟩
/-- an end of a slice -/
def pO (m : Env → G → Uk.R D) (isn : Bool) (k : Option Int → G → Uk.R D) (e : Env) (g : G) : Uk.R D := match isn with
  | true => k none g
  | false => (m e g).bind fun h g => orElse h.int? fun h => k (some h) g
theorem int?_some {d : D} {i : Int} (h : d.int? = some i) : d = .int i := by
  cases d with
  | int j => cases h; rfl
  | _ => cases h
/-- what an end's reading is -/
theorem po_seq {m : Env → G → Uk.R D} {isn : Bool} {tt : L2.TO} (hpo : (isn = true ∧ tt = tNoPart) ∨ (isn = false ∧ tt = tPart (LE X E m))) {k : Option Int → G → Uk.R D} (R : Rel X.K X.mg X.w r g H) (er : ER X.K r H e σ) (hp : Post X.K X.mg X.w (E σ) r H (pO m isn k e g) Q)
    {Q' : Option Int → Hp → Prop} (next : ∀ (r1 : List Addr) (g1 : G) (H1 : Hp) (o : Option Int), Ext r H r1 H1 → Rel X.K X.mg X.w r1 g1 H1 → ER X.K r1 H1 e σ → Post X.K X.mg X.w (E σ) r1 H1 (k o g1) Q → Q' o H1) : tt σ H Q' := by
  rcases hpo with ⟨rfl, rfl⟩ | ⟨rfl, rfl⟩
  · exact next r g H none (.refl _ _) R er hp
  · have hp : Post X.K X.mg X.w (E σ) r H ((m e g).bind fun h g => orElse h.int? fun h => k (some h) g) Q := hp
    refine LE.bind R er hp fun r1 g1 H1 d v x R1 er1 q hp => ?_
    cases hd : d.int? with
    | none => rw [hd] at hp; exact hp.elim
    | some i =>
      rw [hd] at hp
      have ed := int?_some hd
      subst ed
      exact ⟨i, q.int_inv, next r1 g1 H1 (some i) x R1 er1 hp⟩
theorem ok_cut {a : PySem.Expr} {pl ph : Option PySem.Expr} {p1 pos : Pos} {ma ml mh : Env → G → Uk.R D} {bl bh : Bool} (ha : PE X a (LE X E ma)) (hl : (pl = none ∧ bl = true) ∨ (∃ q, pl = some q ∧ bl = false ∧ PE X q (LE X E ml)))
    (hh : (ph = none ∧ bh = true) ∨ (∃ q, ph = some q ∧ bh = false ∧ PE X q (LE X E mh))) :
    PE X (.Subscript a (.Slice pl ph none p1) pos) (LE X E fun e g => (ma e g).bind fun x g => pO ml bl (fun lo g => pO mh bh (fun hi g => getCut x lo hi g) e g) e g) := by
  have P1 : ∃ tl, PO X pl tl ∧ ((bl = true ∧ tl = tNoPart) ∨ (bl = false ∧ tl = tPart (LE X E ml))) := by
    rcases hl with ⟨rfl, rfl⟩ | ⟨q, rfl, rfl, h⟩
    · exact ⟨_, po_none, .inl ⟨rfl, rfl⟩⟩
    · exact ⟨_, po_some h, .inr ⟨rfl, rfl⟩⟩
  have P2 : ∃ tl, PO X ph tl ∧ ((bh = true ∧ tl = tNoPart) ∨ (bh = false ∧ tl = tPart (LE X E mh))) := by
    rcases hh with ⟨rfl, rfl⟩ | ⟨q, rfl, rfl, h⟩
    · exact ⟨_, po_none, .inl ⟨rfl, rfl⟩⟩
    · exact ⟨_, po_some h, .inr ⟨rfl, rfl⟩⟩
  obtain ⟨tl, p1', h1⟩ := P1
  obtain ⟨th, p2', h2⟩ := P2
  refine ⟨fun pins s σ H Q I ⟨r, g, e, R, er, hp⟩ => (pe_slice (sl_ok (E := E σ)) ha p1' p2').run pins s σ H Q I (LE.bind R er hp fun r1 g1 H1 d1 v1 x1 R1 er1 q1 hp => ?_)⟩
  refine po_seq h1 R1 er1 hp fun r2 g2 H2 lo x2 R2 er2 hp => po_seq h2 R2 er2 hp fun r3 g3 H3 hi x3 R3 er3 hp => ⟨r3, g3, d1, R3, VR.mono (x2.trans x3) _ _ q1, hp⟩
end
end Uk
end
section
set_option Elab.async false
set_option linter.all false
set_option maxRecDepth 100000
set_option autoImplicit false
set_option maxHeartbeats 1000000
namespace Uk
open PySem PySem.Spec PyProof.Rows L2
section
variable {X : L2.Cx} {ck : Arguments → List Stmt → Scope → FDef → Bool} {c : Cx} {N : List String} {sc : Scope} {E : L2.St → XK} {r : List Addr} {H : Hp} {g : G} {Q : VK} {σ : L2.St} {e : Env}
/-! ## Comparisons -/
theorem isn_non {b : Uk.E} (h : isnC b = true) : b = .cst .non := by
  unfold isnC at h
  split at h
  · rfl
  · cases h
/-- the right side's value where None is written -/
theorem cst_val {b : Uk.E} {g g1 : G} {d : D} {e : Env} (h : isnC b = true) (hm : ev c b e g = .ok d g1) : d = .non := by
  rw [isn_non h] at hm
  have hm : Uk.R.ok D.non g = .ok d g1 := hm
  cases hm
  rfl
/-- two parts of a comparison -/
theorem two_seq {ma : Env → G → Uk.R D} {b : Uk.E} (R : Rel X.K X.mg X.w r g H) (er : ER X.K r H e σ) {k : D → D → G → Uk.R D} (hp : Post X.K X.mg X.w (E σ) r H ((ma e g).bind fun x g => (ev c b e g).bind fun y g => k x y g) Q) {Q' : V → V → Hp → Prop}
    (next : ∀ (r2 : List Addr) (g2 : G) (H2 : Hp) (x y : D) (v w : V), Ext r H r2 H2 → Rel X.K X.mg X.w r2 g2 H2 → ER X.K r2 H2 e σ → VR X.K r2 H2 x v → VR X.K r2 H2 y w → (isnC b = true → w = .non) → Post X.K X.mg X.w (E σ) r2 H2 (k x y g2) Q → Q' v w H2) :
    LE X E ma σ H fun v H1 => LE X E (ev c b) σ H1 fun w H2 => Q' v w H2 := by
  refine LE.bind R er hp fun r1 g1 H1 d1 v1 x1 R1 er1 q1 hp => ?_
  refine ⟨r1, g1, e, R1, er1, ?_⟩
  cases hm : ev c b e g1 with
  | bad => rw [hm] at hp; exact hp.elim
  | exc y g2 => rw [hm] at hp; exact hp
  | ok d2 g2 =>
    rw [hm] at hp
    have hp : Post X.K X.mg X.w (E σ) r1 H1 (k d1 d2 g2) Q := hp
    intro r2 w H2 x2 R2 q2
    refine next r2 g2 H2 d1 d2 v1 w (x1.trans x2) R2 (er1.mono x2) (VR.mono x2 _ _ q1) q2 (fun hb => ?_) (hp.ext x2)
    have := cst_val hb hm
    subst this
    exact q2.non_inv
theorem copB_inv {o : Cop} {q : CmpOp} {b : Uk.E} (h : copB o q b = true) : copOp o = q ∧ isnOk o b = true := by
  unfold copB at h
  rw [Bool.and_eq_true] at h
  exact ⟨of_decide_eq_true h.1, h.2⟩
theorem ok_cmp (O : XOk X ck c N sc E) (EI : ∀ E, EqIns X c E) {o : Cop} {pa pb : PySem.Expr} {pos : Pos} {ma : Env → G → Uk.R D} {b : Uk.E} (hpl : plainP pb = true) (hn : isnOk o b = true) (ha : PE X pa (LE X E ma)) (hb : PE X pb (LE X E (ev c b))) :
    OkE X E (.Compare pa [copOp o] [pb] pos) (fun e g => (ma e g).bind fun x g => (ev c b e g).bind fun y g => cmpop c o x y g) := by
  refine ⟨⟨fun pins s σ H Q I ⟨r, g, e, R, er, hp⟩ => ?_⟩, ⟨fun pins s σ H Q I ⟨r, g, e, R, er, hp⟩ => ?_⟩, fun z => absurd z Bool.false_ne_true⟩
  · exact (pe_cmpR (opr_cmp O (EI (E σ)) hn) ha hb (nomarks hpl)).run pins s σ H Q I (two_seq R er hp fun r2 g2 H2 x y v w x2 R2 er2 q1 q2 hw hp => ⟨hw, r2, g2, x, y, R2, q1, q2, hp⟩)
  · exact (pt_cmpR (opr_cmp O (EI (E σ)) hn) ha hb (nomarks hpl)).run pins s σ H Q I (two_seq R er hp fun r2 g2 H2 x y v w x2 R2 er2 q1 q2 hw hp => ⟨hw, r2, g2, x, y, R2, q1, q2, hp⟩)
/-- a comparison gives a bool -/
theorem cmp_bool {o : Cop} {x y z : D} {g g1 : G} (h : cmpop c o x y g = .ok z g1) : ∃ b, z = .bl b := by
  have two : ∀ {m : Uk.R Bool} {f : Bool → Bool}, (m.bind fun b g => Uk.R.ok (D.bl (f b)) g) = .ok z g1 → ∃ b, z = .bl b := fun {m f} h => by
    cases m with
    | ok b g2 => cases h; exact ⟨_, rfl⟩
    | exc _ _ => cases h
    | bad => cases h
  have ord : ∀ {f : Int → Int → Bool}, ordI f x y g = .ok z g1 → ∃ b, z = .bl b := fun {f} h => by
    unfold ordI at h
    split at h
    · cases h; exact ⟨_, rfl⟩
    · cases h
  have inn : ∀ {m : Option Bool} {f : Bool → Bool}, (orElse m fun b => Uk.R.ok (D.bl (f b)) g) = .ok z g1 → ∃ b, z = .bl b := fun {m f} h => by
    cases m with
    | some b => cases h; exact ⟨_, rfl⟩
    | none => cases h
  cases o with
  | eq => exact two (f := fun b => b) h
  | ne =>
    have h : (if neOk g x y then (eqOp c x y g).bind fun b g => Uk.R.ok (D.bl (!b)) g else .bad) = .ok z g1 := h
    split at h
    · exact two h
    · cases h
  | lt => exact ord h
  | le => exact ord h
  | gt => exact ord h
  | ge => exact ord h
  | isn => cases h; exact ⟨_, rfl⟩
  | notn => cases h; exact ⟨_, rfl⟩
  | in_ => exact inn (f := fun b => b) h
  | nin => exact inn h
theorem ok_chn (O : XOk X ck c N sc E) (EI : ∀ E, EqIns X c E) {o o2 : Cop} {pa pb pd : PySem.Expr} {pos : Pos} {ma : Env → G → Uk.R D} {b d : Uk.E} (hpl : plainP pd = true) (hn : isnOk o b = true) (hn2 : isnOk o2 d = true) (ha : PE X pa (LE X E ma)) (hb : PE X pb (LE X E (ev c b))) (hd : PE X pd (LE X E (ev c d))) :
    OkE X E (.Compare pa [copOp o, copOp o2] [pb, pd] pos) (fun e g => (ma e g).bind fun x g => (ev c b e g).bind fun y g => (cmpop c o x y g).bind fun z g => match z with
      | .bl true => (ev c d e g).bind fun w g => cmpop c o2 y w g
      | .bl false => .ok (.bl false) g
      | _ => .bad) := by
  have hm : lastMarks [copOp o, copOp o2] [pb, pd] = false := nomarks hpl
  have key : ∀ {σ : L2.St} {H : Hp} {Q : VK}, (LE X E fun e g => (ma e g).bind fun x g => (ev c b e g).bind fun y g => (cmpop c o x y g).bind fun z g => match z with
      | .bl true => (ev c d e g).bind fun w g => cmpop c o2 y w g
      | .bl false => .ok (.bl false) g
      | _ => .bad) σ H Q → tChain (r2Of X (E σ) (cmpop c o) fun w => isnC b = true → w = .non) (r2Of X (E σ) (cmpop c o2) fun w => isnC d = true → w = .non) (LE X E ma) (LE X E (ev c b)) (LE X E (ev c d)) σ H Q := by
    intro σ H Q ⟨r, g, e, R, er, hp⟩
    refine two_seq R er hp fun r2 g2 H2 x y v w x2 R2 er2 q1 q2 hw hp => ⟨hw, r2, g2, x, y, R2, q1, q2, ?_⟩
    cases hc : cmpop c o x y g2 with
    | bad => rw [hc] at hp; exact hp.elim
    | exc z g3 => rw [hc] at hp; exact hp
    | ok z g3 =>
      rw [hc] at hp
      obtain ⟨k, rfl⟩ := cmp_bool hc
      intro r3 v3 H3 x3 R3 q3
      refine ⟨k, q3.bl_inv, ?_⟩
      cases k with
      | false =>
        rw [if_neg (by simp)]
        have hp : Post X.K X.mg X.w (E σ) r2 H2 (.ok (.bl false) g3) Q := hp
        exact hp r3 _ H3 x3 R3 .bl
      | true =>
        rw [if_pos rfl]
        have hp : Post X.K X.mg X.w (E σ) r2 H2 ((ev c d e g3).bind fun w g => cmpop c o2 y w g) Q := hp
        refine ⟨r3, g3, e, R3, er2.mono x3, ?_⟩
        cases hm : ev c d e g3 with
        | bad => rw [hm] at hp; exact hp.elim
        | exc y g4 =>
          rw [hm] at hp
          exact fun r' H' cls dx x' R' q => hp r' H' cls dx (x3.trans x') R' q
        | ok d2 g4 =>
          rw [hm] at hp
          have hp : Post X.K X.mg X.w (E σ) r2 H2 (cmpop c o2 y d2 g4) Q := hp
          intro r4 w4 H4 x4 R4 q4
          refine ⟨fun hb => ?_, r4, g4, y, d2, R4, VR.mono (x3.trans x4) _ _ q2, q4, hp.ext (x3.trans x4)⟩
          have := cst_val hb hm
          subst this
          exact q4.non_inv
  refine ⟨⟨fun pins s σ H Q I h => (pe_chain (opr_cmp O (EI (E σ)) hn) (opr_cmp O (EI (E σ)) hn2) ha hb hd hm).run pins s σ H Q I (key h)⟩, ⟨fun pins s σ H Q I h => (pt_chain (opr_cmp O (EI (E σ)) hn) (opr_cmp O (EI (E σ)) hn2) ha hb hd hm).run pins s σ H Q I (key h)⟩, fun z => absurd z Bool.false_ne_true⟩
/-! ## and, or, not, if -/
def andD (ma mb : Env → G → Uk.R D) : Env → G → Uk.R D := fun e g => (ma e g).bind fun x g => match x with
    | .bl true => mb e g
    | .bl false => .ok (.bl false) g
    | _ => .bad
def orD (ma mb : Env → G → Uk.R D) : Env → G → Uk.R D := fun e g => (ma e g).bind fun x g => match x with
    | .bl true => .ok (.bl true) g
    | .bl false => mb e g
    | _ => .bad
def iteD (mt ma mb : Env → G → Uk.R D) : Env → G → Uk.R D := fun e g => (mt e g).bind fun x g => match x with
    | .bl true => ma e g
    | .bl false => mb e g
    | _ => .bad
theorem and_reads {ma mb : Env → G → Uk.R D} {Q : Bool → Hp → Prop} (h : LT X E (andD ma mb) σ H Q) : LT X E ma σ H fun c H1 => if c = true then LT X E mb σ H1 Q else Q false H1 := by
  obtain ⟨r, g, e, R, er, hp⟩ := h
  refine LT.bind R er hp (fun d g1 _ hk => ?_) fun r1 g1 H1 b x R1 er1 hp => ?_
  · cases d with
    | bl b => exact ⟨b, rfl⟩
    | _ => exact absurd rfl hk
  · cases b with
    | true => exact ⟨r1, g1, e, R1, er1, hp⟩
    | false =>
      obtain ⟨b, eb, q⟩ := Post.here (d := .bl false) hp R1 .bl
      cases eb
      exact q
theorem or_reads {ma mb : Env → G → Uk.R D} {Q : Bool → Hp → Prop} (h : LT X E (orD ma mb) σ H Q) : LT X E ma σ H fun c H1 => if c = true then Q true H1 else LT X E mb σ H1 Q := by
  obtain ⟨r, g, e, R, er, hp⟩ := h
  refine LT.bind R er hp (fun d g1 _ hk => ?_) fun r1 g1 H1 b x R1 er1 hp => ?_
  · cases d with
    | bl b => exact ⟨b, rfl⟩
    | _ => exact absurd rfl hk
  · cases b with
    | false => exact ⟨r1, g1, e, R1, er1, hp⟩
    | true =>
      obtain ⟨b, eb, q⟩ := Post.here (d := .bl true) hp R1 .bl
      cases eb
      exact q
theorem andV_reads {ma mb : Env → G → Uk.R D} (h : LE X E (andD ma mb) σ H Q) : tAndV (LE X E ma) (LE X E mb) σ H Q := by
  obtain ⟨r, g, e, R, er, hp⟩ := h
  refine LE.bind R er hp fun r1 g1 H1 d v x R1 er1 q hp => ?_
  cases d with
  | bl b =>
    refine ⟨b, q.bl_inv, ?_⟩
    cases b with
    | true => exact ⟨r1, g1, e, R1, er1, hp⟩
    | false => exact Post.here (d := .bl false) hp R1 .bl
  | _ => exact hp.elim
theorem orV_reads {ma mb : Env → G → Uk.R D} (h : LE X E (orD ma mb) σ H Q) : tOrV (LE X E ma) (LE X E mb) σ H Q := by
  obtain ⟨r, g, e, R, er, hp⟩ := h
  refine LE.bind R er hp fun r1 g1 H1 d v x R1 er1 q hp => ?_
  cases d with
  | bl b =>
    refine ⟨b, q.bl_inv, ?_⟩
    cases b with
    | true => exact Post.here (d := .bl true) hp R1 .bl
    | false => exact ⟨r1, g1, e, R1, er1, hp⟩
  | _ => exact hp.elim
theorem ok_and1 {pa pb : PySem.Expr} {pos : Pos} {ma mb : Env → G → Uk.R D} (ha : OkE X E pa ma) (hb : OkE X E pb mb) : OkE X E (.BoolOp .And [pa, pb] pos) (andD ma mb) := by
  have pw : PW X (.BoolOp .And [pa, pb] pos) (LT X E (andD ma mb)) := ⟨fun wh pins s σ H Q I h => (pw_and ha.pt (pw_and1 hb.pt)).run wh pins s σ H Q I (and_reads h)⟩
  exact ⟨⟨fun pins s σ H Q I h => (pe_and ha.pe (pe_one hb.pe)).run pins s σ H Q I (andV_reads h)⟩, pw.pt, fun _ => pw⟩
theorem ok_andN {pa pb : PySem.Expr} {l : List PySem.Expr} {pos : Pos} {ma mb : Env → G → Uk.R D} (ha : OkE X E pa ma) (hb : OkE X E (.BoolOp .And (pb :: l) pos) mb) : OkE X E (.BoolOp .And (pa :: pb :: l) pos) (andD ma mb) := by
  have pw : PW X (.BoolOp .And (pa :: pb :: l) pos) (LT X E (andD ma mb)) := ⟨fun wh pins s σ H Q I h => (pw_and ha.pt (hb.pw rfl)).run wh pins s σ H Q I (and_reads h)⟩
  exact ⟨⟨fun pins s σ H Q I h => (pe_and ha.pe hb.pe).run pins s σ H Q I (andV_reads h)⟩, pw.pt, fun _ => pw⟩
theorem ok_or1 {pa pb : PySem.Expr} {pos : Pos} {ma mb : Env → G → Uk.R D} (ha : OkE X E pa ma) (hb : OkE X E pb mb) : OkE X E (.BoolOp .Or [pa, pb] pos) (orD ma mb) := by
  have pw : PW X (.BoolOp .Or [pa, pb] pos) (LT X E (orD ma mb)) := ⟨fun wh pins s σ H Q I h => (pw_or ha.pt (pw_or1 hb.pt)).run wh pins s σ H Q I (or_reads h)⟩
  exact ⟨⟨fun pins s σ H Q I h => (pe_or ha.pe (pe_one hb.pe)).run pins s σ H Q I (orV_reads h)⟩, pw.pt, fun _ => pw⟩
theorem ok_orN {pa pb : PySem.Expr} {l : List PySem.Expr} {pos : Pos} {ma mb : Env → G → Uk.R D} (ha : OkE X E pa ma) (hb : OkE X E (.BoolOp .Or (pb :: l) pos) mb) : OkE X E (.BoolOp .Or (pa :: pb :: l) pos) (orD ma mb) := by
  have pw : PW X (.BoolOp .Or (pa :: pb :: l) pos) (LT X E (orD ma mb)) := ⟨fun wh pins s σ H Q I h => (pw_or ha.pt (hb.pw rfl)).run wh pins s σ H Q I (or_reads h)⟩
  exact ⟨⟨fun pins s σ H Q I h => (pe_or ha.pe hb.pe).run pins s σ H Q I (orV_reads h)⟩, pw.pt, fun _ => pw⟩
theorem ok_not {pa : PySem.Expr} {pos : Pos} {ma : Env → G → Uk.R D} (ha : OkE X E pa ma) : OkE X E (.UnaryOp .Not pa pos) (fun e g => (ma e g).bind fun x g => match x with
    | .bl b => .ok (.bl (!b)) g
    | _ => .bad) := by
  refine ⟨⟨fun pins s σ H Q I ⟨r, g, e, R, er, hp⟩ => (pe_not ha.pe).run pins s σ H Q I (LE.bind R er hp fun r1 g1 H1 d v x R1 er1 q hp => ?_)⟩, ⟨fun pins s σ H Q I ⟨r, g, e, R, er, hp⟩ => (pt_not ha.pt).run pins s σ H Q I (LT.bind R er hp (fun d g1 _ hk => ?_) fun r1 g1 H1 b x R1 er1 hp => ?_)⟩, fun z => absurd z Bool.false_ne_true⟩
  · cases d with
    | bl b => exact ⟨b, q.bl_inv, Post.here (d := .bl !b) hp R1 .bl⟩
    | _ => exact hp.elim
  · cases d with
    | bl b => exact ⟨b, rfl⟩
    | _ => exact absurd rfl hk
  · obtain ⟨b2, eb, q⟩ := Post.here (d := .bl !b) hp R1 .bl
    cases eb
    exact q
theorem ok_ite {pt pa pb : PySem.Expr} {pos : Pos} {mt ma mb : Env → G → Uk.R D} (ht : OkE X E pt mt) (ha : OkE X E pa ma) (hb : OkE X E pb mb) : OkE X E (.IfExp pt pa pb pos) (iteD mt ma mb) := by
  have nb : ∀ {d : D} {e : Env} {g : G}, (match d with
    | .bl true => ma e g
    | .bl false => mb e g
    | _ => (.bad : Uk.R D)) ≠ .bad → ∃ b, d = .bl b := fun {d e g} hk => by
    cases d with
    | bl b => exact ⟨b, rfl⟩
    | _ => exact absurd rfl hk
  refine ⟨⟨fun pins s σ H Q I ⟨r, g, e, R, er, hp⟩ => (pe_ifExp ht.pt ha.pe hb.pe).run pins s σ H Q I (LT.bind R er hp (fun d g1 _ hk => nb hk) fun r1 g1 H1 b x R1 er1 hp => ?_)⟩, ⟨fun pins s σ H Q I ⟨r, g, e, R, er, hp⟩ => ?_⟩, fun z => absurd z Bool.false_ne_true⟩
  · cases b with
    | true => exact ⟨r1, g1, e, R1, er1, hp⟩
    | false => exact ⟨r1, g1, e, R1, er1, hp⟩
  · show wpAny (model X.prog X.w) X.A (do if ← isTrue pt X.env (eval pt X.env) then isTrue pa X.env (eval pa X.env) else isTrue pb X.env (eval pb X.env)) (TP X pins σ Q) X.xe s
    refine wpAny_bind (thn (ht.pt.run pins s σ H (fun b H1 => if b = true then LT X E ma σ H1 Q else LT X E mb σ H1 Q) I (LT.bind R er hp (fun d g1 _ hk => nb hk) fun r1 g1 H1 b x R1 er1 hp => ?_)) fun b s1 ⟨H1, I1, q1⟩ => ?_)
    · cases b with
      | true => exact ⟨r1, g1, e, R1, er1, hp⟩
      | false => exact ⟨r1, g1, e, R1, er1, hp⟩
    · cases b with
      | true => exact ha.pt.run pins s1 σ H1 Q I1 q1
      | false => exact hb.pt.run pins s1 σ H1 Q I1 q1
/-! ## Calls of built-ins -/
theorem ok_bi (O : XOk X ck c N sc E) {f : Bi} {ps : List PySem.Expr} {p pos : Pos} {m : Env → G → Uk.R (List D)} (hg : glB sc (sS f.name) = true) (hne : ps.isEmpty = false) (hpl : ∀ p ∈ ps, plainP p = true) (ha : PA X ps (LA X E m)) :
    PE X (.Call (.Name (sS f.name) p) ps [] pos) (LE X E fun e g => (m e g).bind fun ds g => builtin c f ds g) := by
  obtain ⟨gl, nd, nn⟩ := pe_callD.gl_of O hg
  cases ps with
  | nil => cases hne
  | cons p0 ps =>
    have st := star_plain (ps := ps) (env := X.env) (hpl p0 List.mem_cons_self)
    have ba : (backTo pos (starEach ps X.env)).any (·.1) = false := back_any fun q hq => hpl q (List.mem_cons_of_mem _ hq)
    have hm : X.mg (sS f.name) = none := O.gf.blt f.name (by cases f <;> simp [bnames, Bi.name])
    have key : ∀ {σ : L2.St} {H : Hp} {Q : VK}, (LE X E fun e g => (m e g).bind fun ds g => builtin c f ds g) σ H Q → tCB (crOf X (E σ) (builtin c f)) (LA X E m) σ H Q := fun {σ H Q} ⟨r, g, e, R, er, hp⟩ =>
      LA.bind R er hp fun r1 g1 H1 ds vs x R1 er1 q hp => ⟨r1, g1, ds, R1, q, hp⟩
    refine ⟨fun pins s σ H Q I h => ?_⟩
    cases f with
    | len => exact (pe_callB (cr_lenD (E := E σ) O) gl hm (by decide +kernel) ha nn nd st ba).run pins s σ H Q I (key h)
    | abs => exact (pe_callB (cr_absD (E := E σ)) gl hm (by decide +kernel) ha nn nd st ba).run pins s σ H Q I (key h)
    | int => exact (pe_callTy (cr_intD (E := E σ)) gl hm (by decide +kernel) ha nn nd st ba).run pins s σ H Q I (key h)
    | str => exact (pe_callTy (cr_strD (E := E σ)) gl hm (by decide +kernel) ha nn nd st ba).run pins s σ H Q I (key h)
    | list => exact (pe_callTy (cr_listD O.calm (E := E σ)) gl hm (by decide +kernel) ha nn nd st ba).run pins s σ H Q I (key h)
    | tuple => exact (pe_callTy (cr_tupleD (E := E σ)) gl hm (by decide +kernel) ha nn nd st ba).run pins s σ H Q I (key h)
    | all => exact (pe_callB (cr_allD (E := E σ) O.calm) gl hm (by decide +kernel) ha nn nd st ba).run pins s σ H Q I (key h)
    | any => exact (pe_callB (cr_anyD (E := E σ) O.calm) gl hm (by decide +kernel) ha nn nd st ba).run pins s σ H Q I (key h)
    | max => exact (pe_callB (cr_maxD (E := E σ) O.calm) gl hm (by decide +kernel) ha nn nd st ba).run pins s σ H Q I (key h)
    | min => exact (pe_callB (cr_minD (E := E σ) O.calm) gl hm (by decide +kernel) ha nn nd st ba).run pins s σ H Q I (key h)
/-! ## The block of a comprehension -/
theorem XOk.blk (O : XOk X ck c N sc E) (s : Shared) (H : Hp) (scope : Scope) (cl : List (Str × Addr)) (C : Addr) (fp : List Addr) : XOk (X.blk s H scope (compEnvC scope cl C X.env) fp) ck c N (relS scope sc) E0' where
  nm := O.nm
  nd := O.nd
  sc := by rw [← O.sc]; rfl
  calm := O.calm
  gf := O.gf
  lam := O.lam
  ar0 := O.ar0
  ar1 := O.ar1
  room := O.room
  pass := fun σ => fun _ _ _ _ _ _ h => by
    obtain ⟨_, _, _, _, _, _, _, _, _, _, _, _, z⟩ := h
    exact z.elim
theorem TgOk.blk (O : XOk X ck c N sc E) (s : Shared) (H : Hp) (scope : Scope) (cl : List (Str × Addr)) (C : Addr) (fp : List Addr) : TgOk (X.blk s H scope (compEnvC scope cl C X.env) fp) scope := by
  intro x
  have e1 : (compEnvC scope cl C X.env).scope = relS scope X.env.scope := rfl
  refine ⟨fun h => ?_, fun h => ?_⟩
  · have h2 : (relS scope X.env.scope).names.lookup x = some .local := lookup_relS_keep (by simp) h
    exact ⟨.inl h2, .inr h2⟩
  · have h2 : (relS scope X.env.scope).names.lookup x = some .cell := lookup_relS_keep (by simp) h
    refine ⟨.inr h2, .inl ?_⟩
    show (scope.names.lookup x == some NameKind.cell) = true
    rw [h]
    rfl
theorem ok_comp (O : XOk X ck c N sc E) {pt pi p : PySem.Expr} {ifs : List PySem.Expr} {scope : Scope} {pos : Pos} {vs : List Nat} {tg : Tg} {mi : Env → G → Uk.R (Nat × Wk)} {mc me : Env → G → Uk.R D}
    (hv : (ownOf N vs).map (·.2) = vs) (hb : blkC (N.map sS) sc scope (ownOf N vs) = true) (ht : ckT N scope tg pt = true) (hin : ∀ i ∈ tgIx tg, i ∈ vs) (hi : PI X pt pi (LI X E mi)) (hf : ∀ x, foldedSetIterable pi X.env x = pure x)
    (hc : ∀ (Y : L2.Cx), XOk Y ck c N (relS scope sc) E0' → PTs Y ifs (LT Y E0' mc)) (he : ∀ (Y : L2.Cx), XOk Y ck c N (relS scope sc) E0' → PE Y p (LE Y E0' me)) :
    PE X (.ListComp p [⟨pt, pi, ifs, 0⟩] scope pos) (LE X E (compD mi mc me tg vs)) := by
  have ok : BlkOk X.N X.env.scope scope (ownOf N vs) := by
    rw [O.nm, O.sc]
    exact blkOk_by hb
  have P := pe_lc (elt := p) (tg := pt) (iter := pi) (ifs := ifs) (pos := pos) (wi := LI X E mi) (g := GD X tg) (tt := LT X E0' mc) (te := LE X E0' me) O.calm O.nd hi ok
    (fun s H C cl fp => pg_tg (X := X.blk s H scope (compEnvC scope cl C X.env) fp) O.calm O.nm O.nd (TgOk.blk O s H scope cl C fp) ht)
    (fun s H C cl fp => hc _ (O.blk s H scope cl C fp)) (fun s H C cl fp => he _ (O.blk s H scope cl C fp)) hf
  rw [hv] at P
  exact ⟨fun pins s σ H Q I ⟨r, g, e, R, er, hp⟩ => P.run pins s σ H Q I (lc_reads rfl rfl rfl hin (fun _ _ _ _ h => h) (fun _ _ _ h => h) (fun _ _ _ h => h) R er hp)⟩
end
end Uk
end
section
set_option Elab.async false
set_option linter.all false
set_option maxRecDepth 100000
set_option autoImplicit false
set_option maxHeartbeats 1000000
namespace Uk
open PySem PySem.Spec PyProof.Rows L2
/-! ## Dict comprehensions, keys ints or texts -/
def dcTurn (mk mv : Env → G → Uk.R D) (tg : Tg) (vs : List Nat) (δ : Env) (x : D) (g : G) : Uk.R (D × D) := match bindT tg x (Uk.wipe δ vs) with
  | none => .bad
  | some δ => (mk δ g).bind fun y g => (mv δ g).bind fun z g => .ok (y, z) g
def dcD (t : Bool) (mi : Env → G → Uk.R (Nat × Wk)) (mk mv : Env → G → Uk.R D) (tg : Tg) (vs : List Nat) (δ : Env) (g : G) : Uk.R D :=
  (mi δ g).bind fun w g => (dcoL t w.2 w.1 g.length (dcTurn mk mv tg vs δ) w.1 0 (g ++ [if t then .dT [] else .dK []])).bind fun _ g' => .ok (.ref g.length) g'
theorem dcoL_exc {t : Bool} {w : Wk} {n p : Nat} {turn : D → G → Uk.R (D × D)} : ∀ (k i : Nat) (g : G) {x : Exn} {g' : G}, dcoL t w n p turn k i g ≠ .exc x g'
  | 0, i, g, x, g', h => by
    unfold dcoL at h
    split at h <;> cases h
  | k + 1, i, g, x, g', h => by
    unfold dcoL at h
    split at h
    · split at h
      · split at h
        · split at h
          · exact dcoL_exc k _ _ h
          · cases h
        · split at h
          · exact dcoL_exc k _ _ h
          · cases h
        · cases h
      · cases h
    · cases h
section
variable {X : L2.Cx} {ck : Arguments → List Stmt → Scope → FDef → Bool} {c : Cx} {N : List String} {sc : Scope} {E : L2.St → XK} {r : List Addr} {H : Hp} {σ : L2.St} {e : Env} {g : G} {Q : VK}
theorem dc_reads {K : PySem.W.Frag} {mg : Str → Option Value} {wd : World} (hK : X.K = K) (hm : X.mg = mg) (hw : X.w = wd) {mi : Env → G → Uk.R (Nat × Wk)} {mk mv : Env → G → Uk.R D} {tg : Tg} {vs : List Nat} (htg : ∀ i ∈ tgIx tg, i ∈ vs)
    {gg : TG} {tk tv : TE}
    (hgg : ∀ v σ H Q, GD X tg v σ H Q → gg v σ H Q)
    (htk : ∀ σ H Q, (∃ (r : List Addr) (g : G) (e : Env), Rel X.K X.mg X.w r g H ∧ ER X.K r H e σ ∧ Post X.K X.mg X.w (E0' σ) r H (mk e g) Q) → tk σ H Q)
    (htv : ∀ σ H Q, (∃ (r : List Addr) (g : G) (e : Env), Rel X.K X.mg X.w r g H ∧ ER X.K r H e σ ∧ Post X.K X.mg X.w (E0' σ) r H (mv e g) Q) → tv σ H Q)
    (R : Rel X.K X.mg X.w r g H) (er : ER X.K r H e σ) (hp : Post X.K X.mg X.w (E σ) r H (dcD false mi mk mv tg vs e g) Q) : tDc (LI X E mi) gg (fun _ H Q => Q true H) tk tv vs σ H Q := by
  refine ⟨r, g, e, R, er, ?_⟩
  unfold dcD at hp
  cases hmi : mi e g with
  | bad => rw [hmi] at hp; exact hp.elim
  | exc x g1 => rw [hmi] at hp; exact hp
  | ok w g1 =>
    rw [hmi] at hp
    obtain ⟨n, w⟩ := w
    have hp : Post X.K X.mg X.w (E σ) r H ((dcoL false w n g1.length (dcTurn mk mv tg vs e) n 0 (g1 ++ [.dK []])).bind fun _ g' => .ok (.ref g1.length) g') Q := hp
    intro r1 H1 J x1 R1 io D hD
    cases hcl : dcoL false w n g1.length (dcTurn mk mv tg vs e) n 0 (g1 ++ [.dK []]) with
    | bad => rw [hcl] at hp; exact hp.elim
    | exc y g2 => exact absurd hcl (dcoL_exc _ _ _)
    | ok u gf =>
      rw [hcl] at hp
      have hp : Post X.K X.mg X.w (E σ) r H (.ok (.ref g1.length) gf) Q := hp
      have xD : Ext r1 H1 (r1 ++ [D]) (upd H1 D (.dK [])) := .newR hD
      have eD : (r1 ++ [D])[g1.length]? = some D := by rw [← R1.len]; exact get_last
      refine ⟨fun i m H2 => ∃ (r2 : List Addr) (g2 : G), Ext (r1 ++ [D]) (upd H1 D (.dK [])) r2 H2 ∧ Rel X.K X.mg X.w r2 g2 H2 ∧ dcoL false w n g1.length (dcTurn mk mv tg vs e) m i g2 = .ok u gf, ⟨n, r1 ++ [D], g1 ++ [.dK []], .refl _ _, R1.new (o := .dK []) hD ⟨[], upd_same, .nil⟩, hcl⟩, ?_⟩
      rintro i m H2 ⟨r2, g2, x2, R2, hc2⟩
      have x12 : Ext r1 H1 r2 H2 := xD.trans x2
      have eD2 : r2[g1.length]? = some D := x2.get eD
      cases m with
      | zero =>
        unfold dcoL at hc2
        split at hc2
        · rename_i hit
          cases hc2
          exact .inl ⟨io.stop i r2 _ H2 x12 R2 hit, hp r2 _ H2 (x1.trans x12) R2 (.ref eD2)⟩
        · cases hc2
      | succ m =>
        unfold dcoL at hc2
        split at hc2
        · rename_i d hit
          obtain ⟨go, yl⟩ := io.go i r2 g2 H2 d x12 R2 hit
          refine .inr ⟨go, fun H' => ∃ (r' : List Addr) (g' : G), Ext (r1 ++ [D]) (upd H1 D (.dK [])) r' H' ∧ Rel X.K X.mg X.w r' g' H' ∧ dcoL false w n g1.length (dcTurn mk mv tg vs e) m (i + 1) g' = .ok u gf,
            fun H' ⟨r', g', a, b, c⟩ => ⟨m, Nat.lt_succ_self m, r', g', a, b, c⟩, fun v H3 hy => hgg _ _ _ _ ?_⟩
          obtain ⟨x3, R3, q3⟩ := yl v H3 hy
          have er3 : ER X.K r2 H3 (Uk.wipe e vs) (L2.wipe σ vs) := ((er.mono (x1.trans x12)).wipe vs).mono x3
          unfold dcTurn at hc2
          cases hb : bindT tg d (Uk.wipe e vs) with
          | none => rw [hb] at hc2; cases hc2
          | some e3 =>
          rw [hb] at hc2
          refine ⟨r2, g2, d, _, e3, R3, er3, q3, hb, fun us hl er4 => ⟨by rw [wipe_sAll htg, wipe_idem], ?_⟩⟩
          show (if (true : Bool) = true then _ else _)
          rw [if_pos rfl]
          refine htk _ _ _ ⟨r2, g2, e3, R3, er4, ?_⟩
          cases hmk : mk e3 g2 with
          | bad => simp only [hmk, Uk.R.bind] at hc2; cases hc2
          | exc y g4 => simp only [hmk, Uk.R.bind] at hc2; cases hc2
          | ok y g4 =>
            simp only [hmk, Uk.R.bind] at hc2
            intro r5 v5 H5 x5 R5 q5
            refine htv _ _ _ ⟨r5, g4, e3, R5, er4.mono x5, ?_⟩
            cases hmv : mv e3 g4 with
            | bad => simp only [hmv] at hc2; cases hc2
            | exc y g6 => simp only [hmv] at hc2; cases hc2
            | ok z g6 =>
              simp only [hmv] at hc2
              intro r7 v7 H7 x7 R7 q7
              have e7 : r7[g1.length]? = some D := (x3.trans (x5.trans x7)).get eD2
              obtain ⟨o, ho, oo⟩ := R7.get e7
              rw [ho] at hc2
              cases o with
              | dK acc =>
                dsimp only at hc2
                split at hc2
                · rename_i hl2
                  obtain ⟨kk, hkk⟩ := keyOf_some hl2.1
                  obtain ⟨ps, h1, h2⟩ := oo
                  have il : g1.length < g6.length := (List.getElem?_eq_some_iff.mp ho).1
                  have xp : Ext r7 H7 r7 (upd H7 D (.dK (putK ps kk v7))) := .put h1 trivial
                  refine ⟨ps, kk, key_val hkk (VR.mono x7 _ _ q5), h1, by rw [← h2.length, ← line_eq]; exact hl2.2, r7, g6.set g1.length (.dK (putD y z acc)), (x2.trans (x3.trans (x5.trans x7))).trans xp, ?_, hc2⟩
                  exact R7.put e7 h1 trivial ⟨_, upd_same, (h2.put hkk q7).mono xp⟩
                · cases hc2
              | _ => cases hc2
        · cases hc2
theorem ok_dco (O : XOk X ck c N sc E) {pt pi p q : PySem.Expr} {scope : Scope} {pos : Pos} {vs : List Nat} {tg : Tg} {mi : Env → G → Uk.R (Nat × Wk)} {mk mv : Env → G → Uk.R D}
    (hv : (ownOf N vs).map (·.2) = vs) (hb : blkC (N.map sS) sc scope (ownOf N vs) = true) (ht : ckT N scope tg pt = true) (hin : ∀ i ∈ tgIx tg, i ∈ vs) (hi : PI X pt pi (LI X E mi)) (hf : ∀ x, foldedSetIterable pi X.env x = pure x)
    (hk : ∀ (Y : L2.Cx), XOk Y ck c N (relS scope sc) E0' → PE Y p (LE Y E0' mk)) (he : ∀ (Y : L2.Cx), XOk Y ck c N (relS scope sc) E0' → PE Y q (LE Y E0' mv)) :
    PE X (.DictComp p q [⟨pt, pi, [], 0⟩] scope pos) (LE X E (dcD false mi mk mv tg vs)) := by
  have ok : BlkOk X.N X.env.scope scope (ownOf N vs) := by
    rw [O.nm, O.sc]
    exact blkOk_by hb
  have P := pe_dc (kx := p) (vx := q) (tg := pt) (iter := pi) (ifs := []) (pos := pos) (wi := LI X E mi) (g := GD X tg) (tt := fun _ H Q => Q true H) (tk := LE X E0' mk) (tv := LE X E0' mv) O.calm O.nd hi ok
    (fun s H C cl fp => pg_tg (X := X.blk s H scope (compEnvC scope cl C X.env) fp) O.calm O.nm O.nd (TgOk.blk O s H scope cl C fp) ht)
    (fun s H C cl fp => pts_nil) (fun s H C cl fp => hk _ (O.blk s H scope cl C fp)) (fun s H C cl fp => he _ (O.blk s H scope cl C fp)) hf
  rw [hv] at P
  exact ⟨fun pins s σ H Q I ⟨r, g, e, R, er, hp⟩ => P.run pins s σ H Q I (dc_reads rfl rfl rfl hin (fun _ _ _ _ h => h) (fun _ _ _ h => h) (fun _ _ _ h => h) R er hp)⟩
end
end Uk
end
section
set_option Elab.async false
set_option linter.all false
set_option maxRecDepth 100000
set_option autoImplicit false
set_option maxHeartbeats 1000000
namespace Uk
open PySem PySem.Spec PyProof.Rows L2
/-! ## The module's dicts with text keys, its tuples -/
theorem isStr_sS {k : Value} {a b : String} (h : ∃ t, k = .str (sS a) t) : k.isStr (sS b) = (a == b) := by
  obtain ⟨t, rfl⟩ := h
  show (sS a == sS b) = _
  exact str_beq a b
theorem dctE_find {K : PySem.W.Frag} {z : String} : ∀ {kvs : List (String × D)} {l : List DictEntry}, DctE K kvs l → match lookF z kvs with
    | some d => ∃ e, l.find? (·.key.isStr (sS z)) = some e ∧ ∃ v, RelV v e.val ∧ ∀ r H, VR K r H d v
    | none => l.find? (·.key.isStr (sS z)) = none
  | [], _, .nil => rfl
  | q :: kvs, e :: l, .cons ⟨h1, h2⟩ t => by
    have ih := dctE_find (z := z) t
    obtain ⟨a, d⟩ := q
    have hs := isStr_sS (b := z) h1
    unfold lookF
    rw [List.find?_cons]
    by_cases hz : a = z
    · rw [if_pos hz]
      have : e.key.isStr (sS z) = true := by rw [hs]; exact beq_iff_eq.mpr hz
      rw [this]
      exact ⟨e, rfl, h2⟩
    · rw [if_neg hz]
      have : e.key.isStr (sS z) = false := by rw [hs]; exact beq_eq_false_iff_ne.mpr hz
      rw [this]
      exact ih
theorem dctE_noref {K : PySem.W.Frag} : ∀ {kvs : List (String × D)} {l : List DictEntry}, DctE K kvs l → l.any (·.refKey) = false
  | [], _, .nil => rfl
  | q :: kvs, e :: l, .cons ⟨⟨t, h1⟩, h2⟩ r => by
    rw [List.any_cons, dctE_noref r, Bool.or_false]
    unfold DictEntry.refKey
    rw [h1]
section
variable {X : L2.Cx} {ck : Arguments → List Stmt → Scope → FDef → Bool} {c : Cx} {N : List String} {sc : Scope} {E : L2.St → XK} {r : List Addr} {H : Hp} {g : G} {Q : VK} {pins : List (Addr × Obj)} {s : Shared} {σ : L2.St} {e : Env}
theorem nsIn_dct {K : PySem.W.Frag} {wd : World} {d : Addr} {es : Array DictEntry} {n : Nat} {kvs : List (String × D)} (D0 : KDict K wd d es n) (he : DctE K kvs es.toList) (z : String) : match lookF z kvs with
    | some x => ∃ u, PySem.W.nsIn K d (sS z) = some (some u) ∧ ∃ v, RelV v u ∧ ∀ r H, VR K r H x v
    | none => PySem.W.nsIn K d (sS z) = some none := by
  have h := dctE_find (z := z) he
  have e0 : PySem.W.nsIn K d (sS z) = (match es.toList.find? (·.key.isStr (sS z)) with
      | some e => some (some e.val)
      | none => if es.toList.any (·.refKey) then none else some none) := by
    unfold PySem.W.nsIn
    rw [D0.at_]
    try rfl
  cases hl : lookF z kvs with
  | some x =>
    rw [hl] at h
    obtain ⟨e, h1, h2⟩ := h
    rw [h1] at e0
    exact ⟨e.val, e0, h2⟩
  | none =>
    rw [hl] at h
    have h : es.toList.find? (·.key.isStr (sS z)) = none := h
    rw [h, dctE_noref he] at e0
    exact e0
theorem ok_din (O : XOk X ck c N sc E) {x : String} {q : PySem.Expr} {p1 pos : Pos} {m : Env → G → Uk.R D} (hg : glB sc (sS x) = true) (hs : (c.P.dct x).isSome = true) (ha : PE X q (LE X E m)) :
    OkE X E (.Compare q [.In] [.Name (sS x) p1] pos) fun e g => (m e g).bind fun y g => dinM (c.P.dct x) y g := by
  obtain ⟨gl, nd, nn⟩ := pe_callD.gl_of O hg
  obtain ⟨kvs, hk⟩ := Option.isSome_iff_exists.mp hs
  obtain ⟨d, es, n, hm, D0, he⟩ := O.gf.dct x kvs hk
  have key : ∀ {σ : L2.St} {H : Hp} {Q : VK}, (LE X E fun e g => (m e g).bind fun y g => dinM (c.P.dct x) y g) σ H Q → tOp (fun x y H Q => ∃ (z : Str) (r : Option Value), x = .str z ∧ y = .ref d ∧ PySem.W.nsIn X.K d z = some r ∧ Q (.bl r.isSome) H) (LE X E m) (tC (.ref d)) σ H Q := by
    intro σ H Q ⟨r, g, e, R, er, hp⟩
    refine LE.bind R er hp fun r1 g1 H1 d1 v1 x1 R1 er1 q1 hp => ?_
    rw [hk] at hp
    cases d1 with
    | str z =>
      have hp : Post X.K X.mg X.w (E σ) r1 H1 (.ok (.bl (lookF z kvs).isSome) g1) Q := hp
      have h := nsIn_dct D0 he z
      cases hl : lookF z kvs with
      | some y =>
        rw [hl] at h hp
        obtain ⟨u, h1, _⟩ := h
        exact ⟨sS z, some u, q1.str_inv, rfl, h1, Post.here (d := .bl true) hp R1 .bl⟩
      | none =>
        rw [hl] at h hp
        exact ⟨sS z, none, q1.str_inv, rfl, h, Post.here (d := .bl false) hp R1 .bl⟩
    | _ => exact hp.elim
  have gn : PE X (.Name (sS x) p1) (tC (.ref d)) := pe_glob gl hm rfl nd
  refine ⟨⟨fun pins s σ H Q I h => (pe_cmpR (op_in_kd D0) ha gn rfl).run pins s σ H Q I (key h)⟩, ⟨fun pins s σ H Q I h => (pt_cmpR (op_in_kd D0) ha gn rfl).run pins s σ H Q I (key h)⟩, fun z => absurd z Bool.false_ne_true⟩
theorem pe_dix (O : XOk X ck c N sc E) {x : String} {q : PySem.Expr} {p1 pos : Pos} {m : Env → G → Uk.R D} (hg : glB sc (sS x) = true) (hs : (c.P.dct x).isSome = true) (hpl : plainP q = true) (ha : PE X q (LE X E m)) :
    PE X (.Subscript (.Name (sS x) p1) q pos) (LE X E fun e g => (m e g).bind fun y g => dixM (c.P.dct x) y g) := by
  obtain ⟨gl, nd, nn⟩ := pe_callD.gl_of O hg
  obtain ⟨kvs, hk⟩ := Option.isSome_iff_exists.mp hs
  obtain ⟨d, es, n, hm, D0, he⟩ := O.gf.dct x kvs hk
  have gn : PE X (.Name (sS x) p1) (tC (.ref d)) := pe_glob gl hm rfl nd
  refine ⟨fun pins s σ H Q I ⟨r, g, e, R, er, hp⟩ => (pe_ix ix_kdict gn ha (plainIx hpl)).run pins s σ H Q I ?_⟩
  refine LE.bind R er hp fun r1 g1 H1 d1 v1 x1 R1 er1 q1 hp => ?_
  rw [hk] at hp
  cases d1 with
  | str z =>
    have hp : Post X.K X.mg X.w (E σ) r1 H1 (orElse (lookF z kvs) fun v => .ok v g1) Q := hp
    have h := nsIn_dct D0 he z
    cases hl : lookF z kvs with
    | some y =>
      rw [hl] at h hp
      obtain ⟨u, h1, v, h2, h3⟩ := h
      exact ⟨d, sS z, v, rfl, q1.str_inv, ⟨es, n, u, D0.at_, D0.lit, h1, h2⟩, Post.here (d := y) hp R1 (h3 r1 H1)⟩
    | none => rw [hl] at hp; exact hp.elim
  | _ => exact hp.elim
/-- x.index(q), x a tuple of the module -/
theorem pe_gix (O : XOk X ck c N sc E) {x : String} {q : PySem.Expr} {p1 apos pos : Pos} {m : Env → G → Uk.R D} {xs : List D} (hg : glB sc (sS x) = true) (hc : c.P.con x = some (.tup xs)) (hline : lineB apos pos = true) (hpl : plainP q = true) (ha : PE X q (LE X E m)) :
    PE X (.Call (.Attribute (.Name (sS x) p1) (sS "index") apos) [q] [] pos) (LE X E fun e g => (m e g).bind fun y g => orElse (c.P.con x) fun t => tupM t [y] g) := by
  obtain ⟨gl, nd, nn⟩ := pe_callD.gl_of O hg
  obtain ⟨a, ob, hm, hk, hcl, hd⟩ := O.gf.cot x xs hc
  obtain ⟨v, u, hm2, ru, hv⟩ := O.gf.con x _ hc
  rw [hm] at hm2
  cases hm2
  have hpl2 : ∀ p ∈ [q], plainP p = true := fun p hp => by rw [List.mem_singleton.mp hp]; exact hpl
  refine ⟨fun pins s σ H Q I ⟨r, g, e, R, er, hp⟩ => ?_⟩
  rw [hc] at hp
  refine methodCall_gen rfl hpl2 (by show 1 < 30; omega) hline (ld_glob I gl hm (fun pl => ?_) nd)
  refine getMethod_builtin (T := "tuple") ⟨ob, I.kIn a ob hk, hcl⟩ PySem.F.plainAttrs_tuple PySem.F.slot_tuple_index PySem.F.type_tuple_index (fun a' e' => by cases e'; exact ⟨ob, I.kIn _ ob hk, hd⟩) ?_
  have st := star_plain (ps := []) (env := X.env) hpl
  have ba : (backTo pos (starEach [] X.env)).any (·.1) = false := rfl
  have hA : wpAny (model X.prog X.w) X.A (spliced (backTo pos (starEach [q] X.env))) (fun us s2 => wpAny (model X.prog X.w) X.A (PySem.call (.builtin "tuple.index") (Value.ref a :: us)) (EP X pins σ Q) X.xe s2) X.xe s := by
    rw [st]
    refine Calls.spliced_cons (LE.seq ha I R er hp fun u2 s2 r2 g2 H2 d2 v2 I2 x2 R2 er2 hd2 ru2 hp2 => Calls.spliced_nil ?_)
    exact tup_meth O.units I2 R2 (hv r2 H2) ru (vs := [v2]) (.cons hd2 (VRs.nil_iff.mpr rfl)) (.cons ru2 .nil) hp2
  rw [st] at hA ⊢
  exact Calls.callWith_builtin rfl (Calls.evalArgs_plain hA)
end
section
variable {ck : Arguments → List Stmt → Scope → FDef → Bool} {c : Cx} {N : List String}
theorem pa_n {X : L2.Cx} {E : L2.St → XK} : PA X [] (LA X E (evs c .n)) := ⟨fun pos pins s σ H Q I ⟨r, g, e, R, er, hp⟩ => pa_nil.run pos pins s σ H Q I (hp r [] H (.refl _ _) R (VRs.nil_iff.mpr rfl))⟩
theorem pa_c {X : L2.Cx} {E : L2.St → XK} {p : PySem.Expr} {ps : List PySem.Expr} {e : Uk.E} {es : Uk.Es} (hpl : plainP p = true) (h1 : PE X p (LE X E (ev c e))) (h2 : PA X ps (LA X E (evs c es))) : PA X (p :: ps) (LA X E (evs c (.c e es))) := by
  refine ⟨fun pos pins s σ H Q I ⟨r, g, δ, R, er, hp⟩ => (pa_cons h1 h2 (star_plain hpl)).run pos pins s σ H Q I ?_⟩
  exact LE.bindA R er hp fun r1 g1 H1 d v x R1 er1 q hp => LA.bindA R1 er1 hp fun r2 g2 H2 ds vs x2 R2 er2 q2 hp => hp r2 _ H2 (.refl _ _) R2 (.cons (VR.mono x2 _ _ q) q2)
end
/-! ### for k in x -/
def ItK (kvs : List (String × D)) : L2.It :=
  ⟨fun i _ => i < kvs.length, fun i H x H' => H' = H ∧ ∃ q, kvs[i]? = some q ∧ x = .str (sS q.1), fun i _ => kvs.length ≤ i⟩
theorem turn_kd {P : Program} {w : World} {K : PySem.W.Frag} {tg : PySem.Expr} {d : Addr} {es : Array DictEntry} {n : Nat} {kvs : List (String × D)} (it : Addr) (D0 : KDict K w d es n) (he : DctE K kvs es.toList) : Turn P w K tg (ItK kvs) [it] it (fun i h => h.IsKeyIter it d i kvs.length n) where
  mem := by simp
  obj := fun i h st b hb => by
    have e : b = it := by simpa using hb
    subst e
    obtain ⟨oi, e, c, dd⟩ := st
    exact ⟨oi, e, fun v z => by rw [dd] at z; cases z⟩
  keep := fun i h h' st k => st.at fun oi e => k it (by simp) oi e
  item := by
    intro X hP hw hK hc i pins s σ H E I hf st hg
    subst hP hw hK
    have hi : i < kvs.length := hg
    obtain ⟨f0, f1, f2, f3, f4, f5⟩ := hf it (by simp)
    have hsz : es.size = kvs.length := by rw [← Array.length_toList]; exact (Paired.length he).symm
    obtain ⟨en, h1, ⟨t, h2⟩, _⟩ := paired_getL he (List.getElem?_eq_getElem hi)
    have hen : es[i]? = some en := by rw [← Array.getElem?_toList]; exact h1
    refine next_key_item st (I.kIn _ _ D0.at_) rfl hsz hen fun h' st' sb => ?_
    have I1 : Inv X pins σ H { s with heap := h' } := I.turned (t' := s.toks) (fun b ob hb e => (sb.2 b hb).trans e) f0 f1 f3 f4 f5
    obtain ⟨oi, e, c, dd⟩ := id st'
    exact ⟨en.key, rfl, go_of (s := { s with heap := h' }) e c dd (by decide) ⟨.str (sS kvs[i].1), H, I1, ⟨t, h2⟩, ⟨rfl, kvs[i], List.getElem?_eq_getElem hi, rfl⟩, st', fun b hb => (hf b hb).1⟩⟩
  done := by
    intro X hP hw hK hc i pins s σ H E I hf st hg
    subst hP hw hK
    have hi : kvs.length ≤ i := hg
    obtain ⟨f0, f1, f2, f3, f4, f5⟩ := hf it (by simp)
    have hsz : es.size = kvs.length := by rw [← Array.length_toList]; exact (Paired.length he).symm
    exact next_key_end (I.ok.hd hc) st (I.kIn _ _ D0.at_) rfl hsz hi fun h' eb => ⟨rfl, I.turned (t' := s.toks) (fun b ob hb e => eb b ob hb e) f0 f1 f3 f4 f5⟩
  self := fun A i s Q E st h => by
    refine wpAny_pyIter_slot st.typeIs F.slot_dict_keyiterator_iter (wpAny_call_entry F.slot_dict_keyiterator_iter st.typeIs F.entry_dict_keyiterator_iter ?_ (F.args_dict_keyiterator_iter_1 _))
    show wpAny _ _ (ret (.ref it)) _ _ s
    exact wpAny_pure ⟨_, rfl, "dict_keyiterator", _, st.typeIs, F.slot_dict_keyiterator_next.lookup, h⟩
theorem Wk.gd_ok {K : PySem.W.Frag} {mg : Str → Option Value} {wd : World} {r : List Addr} {H : Hp} {kvs : List (String × D)} {n : Nat} : ItOk K mg wd r H (ItK kvs) (.tup (kvs.map fun p => .str p.1)) n where
  stop := fun i r1 g1 H1 x R e => by
    have e : some (kvs.map fun p => D.str p.1)[i]? = some none := e
    have e := List.getElem?_eq_none_iff.mp (Option.some.inj e)
    rw [List.length_map] at e
    exact e
  go := fun i r1 g1 H1 d' x R e => by
    have e : some (kvs.map fun p => D.str p.1)[i]? = some (some d') := e
    have e := Option.some.inj e
    rw [List.getElem?_map] at e
    obtain ⟨kv, e1, e2⟩ := Option.map_eq_some_iff.mp e
    refine ⟨(List.getElem?_eq_some_iff.mp e1).1, fun w H' ⟨hH, y', e5, e6⟩ => ?_⟩
    subst hH
    rw [e1] at e5
    cases e5
    rw [e6, ← e2]
    exact ⟨.refl _ _, R, .str⟩
section
variable {X : L2.Cx} {ck : Arguments → List Stmt → Scope → FDef → Bool} {c : Cx} {N : List String} {sc : Scope} {E : L2.St → XK}
theorem pi_gd (O : XOk X ck c N sc E) {x : String} {tg : PySem.Expr} {p1 : Pos} (hg : glB sc (sS x) = true) (hs : (c.P.dct x).isSome = true) : PI X tg (.Name (sS x) p1) (LI X E (evI c (.gd x))) := by
  obtain ⟨gl, nd, nn⟩ := pe_callD.gl_of O hg
  obtain ⟨kvs, hk⟩ := Option.isSome_iff_exists.mp hs
  obtain ⟨d, es, n, hm, D0, he⟩ := O.gf.dct x kvs hk
  refine ⟨fun pins s σ H Rr I ⟨r, g, e, R, er, hp⟩ => ld_glob I gl hm ?_ nd⟩
  have hp : PostI X.K X.mg X.w (E σ) r H (match c.P.dct x with
    | some kvs => .ok (kvs.length, .tup (kvs.map fun p => .str p.1)) g
    | none => .bad) Rr := hp
  rw [hk] at hp
  have hsz : es.size = kvs.length := by rw [← Array.length_toList]; exact (Paired.length he).symm
  refine iter_keys D0.low (I.kIn _ _ D0.at_) ⟨rfl, rfl, rfl⟩ rfl (pi_one (tk := s.toks) I _ (turn_kd _ D0 he) ⟨_, Heap.get?_push_size _ rfl, rfl, ?_⟩ (hp r H _ (.refl _ _) R Wk.gd_ok))
  rw [hsz]
  try rfl
end
end Uk
end
section
set_option Elab.async false
set_option linter.all false
set_option maxRecDepth 100000
set_option autoImplicit false
set_option maxHeartbeats 3200000
namespace Uk
open PySem PySem.Spec PyProof.Rows L2
/-! ## set(list) of small ints, whatever the list's length -/
theorem len_of_sub {α : Type} [BEq α] [LawfulBEq α] : ∀ {l m : List α}, l.Nodup → (∀ x ∈ l, x ∈ m) → l.length ≤ m.length
  | [], m, _, _ => Nat.zero_le _
  | x :: l, m, hn, hs => by
    obtain ⟨h1, h2⟩ := List.nodup_cons.mp hn
    have hx : x ∈ m := hs x List.mem_cons_self
    have ih := len_of_sub (l := l) (m := m.erase x) h2 fun y hy => by
      have hne : y ≠ x := fun z => h1 (z ▸ hy)
      exact (List.mem_erase_of_ne hne).mpr (hs y (List.mem_cons_of_mem _ hy))
    rw [List.length_erase_of_mem hx] at ih
    have : 0 < m.length := List.length_pos_of_mem hx
    simp only [List.length_cons]
    omega
def R60 : List Int := (List.range 60).map Int.ofNat
theorem mem_R60 {k : Int} : k ∈ R60 ↔ 0 ≤ k ∧ k < 60 := by
  unfold R60
  rw [List.mem_map]
  constructor
  · rintro ⟨n, hn, rfl⟩
    have := List.mem_range.mp hn
    exact ⟨by show (0 : Int) ≤ (n : Int); omega, by show (n : Int) < 60; omega⟩
  · rintro ⟨h1, h2⟩
    exact ⟨k.toNat, List.mem_range.mpr (by omega), by show ((k.toNat : Nat) : Int) = k; omega⟩
theorem R60_len : R60.length = 60 := by unfold R60; rw [List.length_map, List.length_range]
theorem setR_few {w : World} {h : Heap} {a : Addr} {l : List Int} {c : Nat} (R : SetR w h a (fun j => decide (j ∈ l)) c) (hl : ∀ k ∈ l, k ∈ R60) : c ≤ 60 := by
  obtain ⟨o, es, ep, t, _, _, _, _, nd, hm, _, _, hn, _⟩ := R
  have h1 := len_of_sub (m := R60) nd fun x hx => hl x (of_decide_eq_true ((hm x).mpr hx))
  rw [List.length_map, R60_len, Array.length_toList] at h1
  omega
section
variable {P : Program} {w : World} {A : Around} {E : Value → Shared → Prop} {s : Shared}
/-- the loop that puts all into the set at S -/
theorem upd_small {I : Addr} {fp wr : List Addr} {G0 : Array GenState → Array GenState → Prop} {Pv : Nat → Value → Prop} {St : Nat → Shared → Prop} {R : Result → Shared → Prop} (ns : List Int)
    (W : WalksS P w A.in1 I fp wr G0 ns.length Pv St) (S : Addr) (hSf : S ∉ fp) (hsm : ∀ k ∈ ns, k ∈ R60) (hval : ∀ i v, Pv i v → ∃ k t, ns[i]? = some k ∧ v = .int k t) :
    ∀ (k i : Nat) (s : Shared), i + k = ns.length → St i s → (∃ c, SetR w s.heap S (fun j => decide (j ∈ ns.take i)) c) →
      (∀ s' c, Moved (S :: wr) G0 s s' → SetR w s'.heap S (fun j => decide (j ∈ ns)) c → R (.ok (.ret .none)) s') →
      codeAny (model P w) A (.builtin "set.update.loop" ⟨[.ref S, .ref I], []⟩) R s := by
  have hSw : S ∉ wr := fun h => hSf (W.sub _ h)
  have hsub : ∀ b ∈ wr, b ∈ S :: wr := fun b hb => List.mem_cons_of_mem _ hb
  intro k
  induction k with
  | zero =>
    intro i s hik hst hS hR
    obtain ⟨c, hS⟩ := hS
    have hin : i = ns.length := by omega
    subst hin
    rw [List.take_length] at hS
    refine codeAny_builtin F.entry_set_update_loop ?_
    rw [Around.under_plainId F.plain_set_update_loop _]
    show wpAny _ A.in1 (pyNext (.ref I) >>= _) _ _ s
    exact wpAny_bind (W.done s _ _ hst fun s' hm => wpAny_pure (hR s' c (hm.mono hsub) (hS.at fun o e => hm.heap S o hSw e)))
  | succ k ih =>
    intro i s hik hst hS hR
    obtain ⟨c, hS⟩ := hS
    have hlt : i < ns.length := by omega
    refine codeAny_builtin F.entry_set_update_loop ?_
    rw [Around.under_plainId F.plain_set_update_loop _]
    show wpAny _ A.in1 (pyNext (.ref I) >>= _) _ _ s
    refine wpAny_bind (W.item i s _ _ hlt hst fun v s' hP hst' hm => ?_)
    obtain ⟨z, t, hz, rfl⟩ := hval i v hP
    have hS' : SetR w s'.heap S (fun j => decide (j ∈ ns.take i)) c := hS.at fun o e => hm.heap S o hSw e
    have hc := setR_few hS' fun k hk => hsm k (List.mem_of_mem_take hk)
    have hroom : c + 1 < scanBound := by
      have e : scanBound = 4096 := rfl
      omega
    show wpAny _ A.in1 (holding [Value.int z t] (setAdd S (.int z t)) >>= _) _ _ s'
    refine wpAny_bind (wpAny_holding ?_)
    unfold setAdd
    refine wpAny_holding (wpAny_bind ((intKind P w).pyHash (k := z) (intKind_is _ _ _ _) ?_))
    refine setR_add_hashed (s := { s' with toks := s'.toks + 1 }) hS' hroom fun h' hsb hS2 => wpAny_pure ⟨plainId_quiet F.plain_set_update_loop _, ?_⟩
    refine ih (i + 1) _ (by omega) (W.frame _ s' _ _ hst' (Nat.le_succ _) fun b hb o e => ?_) ⟨_, hS2.congr fun j => ?_⟩ fun s'' c2 hm'' hS'' => ?_
    · rw [hsb.2 b fun q : b = S => hSf (q ▸ hb)]
      exact e
    · rw [List.take_add_one, hz]
      simp [List.mem_append]
    · refine hR s'' c2 (Moved.trans W.gtrans ((hm.mono hsub).then_heap (Nat.le_succ _) fun b o hb e => ?_) hm'') hS''
      rw [hsb.2 b fun q : b = S => hb (q ▸ List.mem_cons_self)]
      exact e
abbrev newSet (w : World) : Obj := { cls := .type "set", dict := none, data := .set #[] 0 (.fresh 0 0 (!w.params.followText "set-order")) }
/-- set(l), l a list of small ints -/
theorem call_set_small {l : Addr} {items : Array Value} (ns : List Int) {Q : Value → Shared → Prop} (hh : A.handled = none) (hl : s.heap.IsList l items) (hit : IntsAre items.toList ns) (hsm : ∀ k ∈ ns, k ∈ R60)
    (h : ∀ (h' : Heap) (tk c : Nat), SetR w h' s.heap.objs.size (fun j => decide (j ∈ ns)) c → (∀ b o, s.heap.get? b = some o → h'.get? b = some o) → Q (.ref s.heap.objs.size) { s with heap := h', toks := tk }) :
    wpAny (model P w) A (PySem.call (.type "set") [.ref l]) Q E s := by
  have hisz : items.size = ns.length := by
    have q := IntsAre.length hit
    rwa [Array.length_toList] at q
  obtain ⟨c, tl, hmro⟩ := F.called_set.mro
  have hmade := F.called_set.made
  have hsub := F.called_set.sub
  refine wpAny_call (codeAny_of_tree ?_)
  show wpAny _ _ (callAny (.type "set") _) _ _ _
  refine wpAny_pure ⟨Code.quiet_builtin _ (by decide +kernel), codeAny_builtin F.entry_type_call ?_⟩
  rw [Around.under_plain (weight_type_call_type "set" [.ref l] []) rfl]
  have h1 := F.called_set.notType
  have h2 := F.called_set.canCreate
  have hct := F.typeCall_set_1 (.ref l)
  repeat (any_goals (first | assumption | wp_step))
  refine codeAny_mono (code_set_led1 (.ref l) (E := E) (Q₁ := fun obj s₁ => obj = .ref s.heap.objs.size ∧ s₁ = { s with heap := s.heap.push (newSet w) }) ⟨rfl, rfl⟩) fun r s₁ hr => ?_
  cases r with
  | error e => exact hr
  | ok fl =>
    cases fl with
    | ret obj =>
      obtain ⟨rfl, rfl⟩ := hr
      have hS : (s.heap.push (newSet w)).get? s.heap.objs.size = some (newSet w) := Heap.get?_push_size _ rfl
      have hT : Shared.TypeIs { s with heap := s.heap.push (newSet w) } (.ref s.heap.objs.size) "set" := ⟨_, hS, rfl⟩
      have hli := F.called_set.init.lookup
      have hbi := F.called_set.init.bind (.ref s.heap.objs.size)
      repeat (any_goals (first | assumption | wp_step))
      refine codeAny_mono (codeAny_call_builtin (R := wants (fun r s₂ => r = .none ∧ ∃ h' tk c, s₂ = { s with heap := h', toks := tk } ∧ SetR w h' s.heap.objs.size (fun j => decide (j ∈ ns)) c ∧
          (∀ b o, s.heap.get? b = some o → h'.get? b = some o)) E) F.called_set.init.plain F.entry_set_init (check_set_init_1 hT ?_)) fun r₂ s₂ hr₂ => ?_
      · obtain ⟨⟨ocls, odict, odata, oslots⟩, hol, hcl, nl, hdl⟩ := hl
        simp only at hcl hdl
        subst hcl; subst hdl
        have hol' : (s.heap.push (newSet w)).get? l = some { cls := .type "list", dict := odict, data := .seq items nl, slots := oslots } := Heap.get?_push_of_some _ hol
        have hsls := F.sub_list_set
        have hslf := F.sub_list_frozenset
        have hne : (Value.type "list" == Value.type "dict") = false := by decide
        have hl1 : (s.heap.push (newSet w)).IsList l items := ⟨_, hol', rfl, nl, rfl⟩
        unfold Builtin.«set.__init__» noKeywords Builtin.Frozenset.updateFrom
        generalize hPI : pyIter = PI
        wp_walk
        subst hPI
        refine wpAny_pyIter_list hl1 (wpAny_bind (wpAny_runValue ?_))
        have hlS : l < s.heap.objs.size := Heap.lt_size hol
        have hh3 : A.in1.in1.in1.handled = none := by simp [hh]
        have hz1 : (s.heap.push (newSet w)).objs.size = s.heap.objs.size + 1 := Heap.size_push ..
        have hneI : l ≠ (s.heap.push (newSet w)).objs.size := fun q => by
          rw [hz1] at q
          exact Nat.lt_irrefl _ (Nat.lt_of_lt_of_le hlS (Nat.le_of_succ_le (Nat.le_of_eq q.symm)))
        have hSf : s.heap.objs.size ∉ [(s.heap.push (newSet w)).objs.size, l] := by
          intro q
          simp only [List.mem_cons, List.not_mem_nil, or_false] at q
          rcases q with q | q
          · rw [hz1] at q
            exact absurd q (Nat.ne_of_lt (Nat.lt_succ_self _))
          · exact absurd q (Nat.ne_of_gt hlS)
        have hval : ∀ (i : Nat) (v : Value), items[i]? = some v → ∃ k t, ns[i]? = some k ∧ v = .int k t := fun i v hv => by
          have hi : i < ns.length := hisz ▸ (Array.getElem?_eq_some_iff.mp hv).1
          obtain ⟨t, e⟩ := PyProof.Rows.IntsAre.int_at hit i v (by rw [Array.getElem?_toList]; exact hv)
          refine ⟨ns[i], t, List.getElem?_eq_getElem hi, ?_⟩
          rw [e, List.getD_eq_getElem?_getD, List.getElem?_eq_getElem hi]
          rfl
        have W := (Walks.list (prog := P) (w := w) hh3 _ l hneI items).toS
        rw [hisz] at W
        refine upd_small ns W s.heap.objs.size hSf hsm hval ns.length 0 _ (Nat.zero_add _) ⟨⟨_, Heap.get?_push_size _ rfl, rfl, rfl⟩, hl1.push _⟩ ⟨0, setR_new_at (Heap.get?_push_of_some _ hS)⟩ ?_
        intro s' c' hm hS'
        obtain ⟨h', g2, d', tk', os'⟩ := s'
        have eg : g2 = s.gens := hm.gens
        have ed : d' = s.drawn := hm.drawn
        have eo : os' = s.os := hm.os
        subst eg; subst ed; subst eo
        show wpAny _ _ _ _ _ _
        refine wpAny_pure ?_
        show wpAny _ _ (ret Value.none) _ _ _
        refine wpAny_pure ⟨rfl, h', tk', c', rfl, hS', fun b o e => ?_⟩
        have hb0 : b < s.heap.objs.size := Heap.lt_size e
        refine hm.heap b o (fun q => ?_) (Heap.get?_push_of_some _ (Heap.get?_push_of_some _ e))
        simp only [List.mem_cons, List.not_mem_nil, or_false] at q
        rcases q with q | q
        · exact absurd q (Nat.ne_of_lt hb0)
        · rw [hz1] at q
          exact absurd q (Nat.ne_of_lt (Nat.lt_succ_of_lt hb0))
      · cases r₂ with
        | error e => exact hr₂
        | ok fl₂ =>
          cases fl₂ with
          | ret r =>
            obtain ⟨rfl, h', tk, c', rfl, hS', hk'⟩ := hr₂
            repeat (any_goals (first | assumption | wp_step))
            exact h _ _ _ hS' hk'
          | _ => exact hr₂.elim
    | _ => exact hr.elim
end
end Uk
end
section
set_option Elab.async false
set_option linter.all false
set_option maxRecDepth 100000
set_option autoImplicit false
set_option maxHeartbeats 1000000
namespace Uk
open PySem PySem.Spec PyProof.Rows L2
theorem asc_uniq : ∀ {l m : List Int}, l.Pairwise (· < ·) → m.Pairwise (· < ·) → (∀ k, k ∈ l ↔ k ∈ m) → l = m
  | [], [], _, _, _ => rfl
  | [], y :: m, _, _, h => absurd ((h y).mpr List.mem_cons_self) (by simp)
  | x :: l, [], _, _, h => absurd ((h x).mp List.mem_cons_self) (by simp)
  | x :: l, y :: m, hl, hm, h => by
    obtain ⟨l1, l2⟩ := List.pairwise_cons.mp hl
    obtain ⟨m1, m2⟩ := List.pairwise_cons.mp hm
    have e : x = y := by
      rcases List.mem_cons.mp ((h x).mp List.mem_cons_self) with q | q
      · exact q
      · rcases List.mem_cons.mp ((h y).mpr List.mem_cons_self) with q2 | q2
        · exact q2.symm
        · have := l1 y q2
          have := m1 x q
          omega
    subst e
    rw [asc_uniq l2 m2 fun k => ⟨fun hk => ?_, fun hk => ?_⟩]
    · rcases List.mem_cons.mp ((h k).mp (List.mem_cons_of_mem _ hk)) with q | q
      · have := l1 k hk
        omega
      · exact q
    · rcases List.mem_cons.mp ((h k).mpr (List.mem_cons_of_mem _ hk)) with q | q
      · have := m1 k hk
        omega
      · exact q
theorem R60_asc : R60.Pairwise (· < ·) := by
  unfold R60
  rw [List.pairwise_map]
  exact List.pairwise_lt_range.imp fun h => by
    show (_ : Int) < _
    exact Int.ofNat_lt.mpr h
theorem sortU_eq (is : List Int) : sortU is = R60.filter fun k => is.contains k := rfl
theorem sortU_asc (is : List Int) : (sortU is).Pairwise (· < ·) := R60_asc.filter _
theorem mem_sortU {is : List Int} (h : ∀ k ∈ is, k ∈ R60) (k : Int) : k ∈ sortU is ↔ k ∈ is := by
  rw [sortU_eq, List.mem_filter, List.contains_iff_mem]
  exact ⟨fun q => q.2, fun q => ⟨h k q, q⟩⟩
theorem sortU_len (is : List Int) : (sortU is).length ≤ 60 := by
  rw [sortU_eq, ← R60_len]
  exact List.length_filter_le _ _
theorem vals_of_ints : ∀ {vs : List Value} {ns : List Int}, IntsAre vs ns → Vals (ns.map V.int) vs
  | _, _, .nil => .nil
  | _, _, .cons _ t h => .cons ⟨t, rfl⟩ (vals_of_ints h)
theorem vrs_ints {K : PySem.W.Frag} {r : List Addr} {H : Hp} : ∀ (ns : List Int), VRs K r H (ns.map D.int) (ns.map V.int)
  | [] => VRs.nil_iff.mpr rfl
  | n :: ns => .cons .int (vrs_ints ns)
theorem len_of_mem {l m : List Int} (hl : l.Nodup) (hm : m.Nodup) (h : ∀ k, k ∈ l ↔ k ∈ m) : l.length = m.length := Nat.le_antisymm (len_of_sub hl fun k hk => (h k).mp hk) (len_of_sub hm fun k hk => (h k).mpr hk)
theorem asc_nodup {l : List Int} (h : l.Pairwise (· < ·)) : l.Nodup := h.imp fun q z => by omega
theorem setR_card {w : World} {h : Heap} {a : Addr} {is : List Int} {n : Nat} (R : SetR w h a (fun j => decide (j ∈ is)) n) (hsm : ∀ k ∈ is, k ∈ R60) : n = (sortU is).length := by
  obtain ⟨o, es, ep, t, _, _, _, _, nd, hm, _, _, hn, _⟩ := R
  rw [← len_of_mem nd (asc_nodup (sortU_asc is)) fun k => by rw [← hm k, mem_sortU hsm]; simp, List.length_map, Array.length_toList]
  exact hn.symm
section
variable {X : L2.Cx} {ck : Arguments → List Stmt → Scope → FDef → Bool} {c : Cx} {N : List String} {sc : Scope} {E : L2.St → XK} {r : List Addr} {H : Hp} {g : G} {Q : VK} {pins : List (Addr × Obj)} {s : Shared} {σ : L2.St} {e : Env}
theorem small_R60 {is : List Int} (h : small60 is = true) : ∀ k ∈ is, k ∈ R60 := fun k hk => mem_R60.mpr (of_decide_eq_true (List.all_eq_true.mp h k hk))
/-- set(a), then what is done with it -/
theorem set_then {a : PySem.Expr} {p2 q0 : Pos} {m : Env → G → Uk.R D} (O : XOk X ck c N sc E) (hg2 : glB sc (sS "set") = true) (ha : PE X a (LE X E m)) (hpl : plainP a = true) (I : Inv X pins σ H s) (R : Rel X.K X.mg X.w r g H) (er : ER X.K r H e σ) {k : List Int → G → Uk.R D} (hp : Post X.K X.mg X.w (E σ) r H ((m e g).bind fun x g => orElse (setOf x g) fun is => k is g) Q)
    {Qf : Value → Shared → Prop} (next : ∀ (is : List Int) (t : Addr) (s1 : Shared) (r1 : List Addr) (g1 : G) (H1 : Hp), Inv X pins σ H1 s1 → Rel X.K X.mg X.w r1 g1 H1 → (∀ i ∈ is, i ∈ R60) → (∃ n, n ≤ 60 ∧ SetR X.w s1.heap t (fun j => decide (j ∈ is)) n) → Post X.K X.mg X.w (E σ) r1 H1 (k (sortU is) g1) Q → Qf (.ref t) s1) :
    wpAny (model X.prog X.w) X.A (eval (.Call (.Name (sS "set") p2) [a] [] q0) X.env) Qf X.xe s := by
  obtain ⟨gl, nd, nn⟩ := pe_callD.gl_of O hg2
  have hm2 : X.mg "set" = none := O.gf.blt "set" (by simp [bnames])
  have na := star_plain (ps := []) (env := X.env) hpl
  refine Call_ (ld_blt I gl hm2 PyProof.Rows.boot_set ?_)
  refine PyProof.Rows.callWith_type1 (PyProof.Rows.args_cons (LE.seq ha I R er hp fun u s1 r1 g1 H1 d v I1 x R1 er1 hv ru hp => PyProof.Rows.args_nil ?_) na) na rfl
  cases hs : setOf d g1 with
  | none => rw [hs] at hp; exact hp.elim
  | some js =>
    rw [hs] at hp
    have hp : Post X.K X.mg X.w (E σ) r1 H1 (k js g1) Q := hp
    cases d with
    | ref i =>
      unfold setOf at hs
      dsimp only at hs
      cases hl : lsOf g1 i with
      | none => rw [hl] at hs; cases hs
      | some xs =>
        rw [hl] at hs
        have hs : ((intsD xs).bind fun is => if small60 is then some (sortU is) else none) = some js := hs
        cases hi : intsD xs with
        | none => rw [hi] at hs; cases hs
        | some is =>
          rw [hi] at hs
          have hs : (if small60 is then some (sortU is) else none) = some js := hs
          split at hs
          · rename_i hsm
            cases hs
            obtain ⟨p, ws, ep, rfl, h1, h2⟩ := R1.lst hl hv
            obtain rfl : u = Value.ref p := ru
            have hw := ints_vals hi h2
            subst hw
            obtain ⟨its, rv, pl, hz⟩ := I1.list (SqL.of (K := X.K) h1)
            refine call_set_small is (I1.ok.hd O.calm) pl.isList (by simpa using rv.ints) (small_R60 hsm) fun h' tk n hS hk => ?_
            exact next is _ _ r1 g1 H1 (I1.kept hk) R1 (small_R60 hsm) ⟨n, setR_few hS (small_R60 hsm), hS⟩ hp
          · cases hs
    | _ => cases hs
/-- sorted(set(a)) -/
theorem pe_sset {a : PySem.Expr} {p p2 q0 pos : Pos} {m : Env → G → Uk.R D} (O : XOk X ck c N sc E) (hg : glB sc (sS "sorted") = true) (hg2 : glB sc (sS "set") = true) (ha : PE X a (LE X E m)) (hpl : plainP a = true) :
    PE X (.Call (.Name (sS "sorted") p) [.Call (.Name (sS "set") p2) [a] [] q0] [] pos) (LE X E fun e g => (m e g).bind fun x g => orElse (setOf x g) fun is => newL (is.map .int) g) := by
  obtain ⟨gl, nd, nn⟩ := pe_callD.gl_of O hg
  have hm2 : X.mg "sorted" = none := O.gf.blt "sorted" (by simp [bnames])
  refine ⟨fun pins s σ H Q I ⟨r, g, e, R, er, hp⟩ => ?_⟩
  refine Call_ (ld_blt I gl hm2 PyProof.Rows.boot_sorted ?_)
  refine PyProof.Rows.callWith_builtin1 (PyProof.Rows.args_cons ?_ rfl) rfl rfl
  refine set_then (k := fun is g => newL (is.map .int) g) O hg2 ha hpl I R er hp fun is t s1 r1 g1 H1 I1 R1 hsm ⟨n, hn, hS⟩ hp => PyProof.Rows.args_nil ?_
  refine sorted_set hS (I1.ok.hd O.calm) (by omega) fun s' p out c0 ns kp gn os hp1 hg1 hi hasc hmem hl => ?_
  have e1 : ns = sortU is := asc_uniq hasc (sortU_asc is) fun k => by rw [hmem, mem_sortU hsm]; simp
  subst e1
  unfold newL at hp
  rw [if_pos (by rw [List.length_map]; have := sortU_len is; have e : line = 16777216 := rfl; omega)] at hp
  have hn : H1 p = none := I1.hok.fresh hp1
  have hv : Vals ((sortU is).map V.int) out.toList := vals_of_ints hi
  have J : Inv X pins σ (upd H1 p (.lst ((sortU is).map V.int))) { s1 with heap := s'.heap, gens := s'.gens, drawn := s'.drawn, toks := s'.toks } :=
    I1.call (ch := []) (Un.laid kp hp1 hn) (I1.hok.laid kp hp1 ⟨by rw [List.length_map, sizeLine_eq]; have := sortU_len is; omega, out.toList, c0, hv, hg1⟩) (by rw [gn]; exact I1.bare) (fun _ z => nomatch z)
  have e2 : s' = { s1 with heap := s'.heap, gens := s'.gens, drawn := s'.drawn, toks := s'.toks } := by
    cases s'
    cases s1
    cases os
    rfl
  rw [e2]
  exact ⟨.ref p, _, J, rfl, Post.newLst hp R1 (vrs_ints _) hn⟩
/-- len(set(a)) -/
theorem pe_lset {a : PySem.Expr} {p p2 q0 pos : Pos} {m : Env → G → Uk.R D} (O : XOk X ck c N sc E) (hg : glB sc (sS "len") = true) (hg2 : glB sc (sS "set") = true) (ha : PE X a (LE X E m)) (hpl : plainP a = true) :
    PE X (.Call (.Name (sS "len") p) [.Call (.Name (sS "set") p2) [a] [] q0] [] pos) (LE X E fun e g => (m e g).bind fun x g => orElse (setOf x g) fun is => .ok (.int is.length) g) := by
  obtain ⟨gl, nd, nn⟩ := pe_callD.gl_of O hg
  have hm2 : X.mg "len" = none := O.gf.blt "len" (by simp [bnames])
  refine ⟨fun pins s σ H Q I ⟨r, g, e, R, er, hp⟩ => ?_⟩
  refine Call_ (ld_blt I gl hm2 PySem.boot_len ?_)
  refine PyProof.Rows.callWith_builtin1 (PyProof.Rows.args_cons ?_ rfl) rfl rfl
  refine set_then (k := fun is g => .ok (.int is.length) g) O hg2 ha hpl I R er hp fun is t s1 r1 g1 H1 I1 R1 hsm ⟨n, hn, hS⟩ hp => PyProof.Rows.args_nil ?_
  have hnn : n = (sortU is).length := setR_card hS hsm
  obtain ⟨o, es, ep, tb, ho, hex, hd, _, _, _, _, hf, hsz, _⟩ := hS
  refine call_len_set ho hex hd hf (by omega) ⟨.int (sortU is).length, H1, I1.tok (s1.toks + 1 + 1), ⟨s1.toks + 1, by rw [hsz, hnn]⟩, Post.here (d := .int (sortU is).length) hp R1 .int⟩
end
end Uk
end
section
set_option Elab.async false
set_option linter.all false
set_option maxRecDepth 100000
set_option autoImplicit false
set_option maxHeartbeats 2000000
namespace Uk
open PySem PySem.Spec PyProof.Rows L2
/-! ## sorted lists of data -/
mutual
def pdOf : D → PyData
  | .non => .none
  | .bl b => .bool b
  | .int i => .int i
  | .str x => .str (sS x)
  | .tup xs => .tuple (pdOfs xs)
  | .ref _ => .none
  | .fro xs => .list (pdOfs xs)
def pdOfs : List D → List PyData
  | [] => []
  | x :: xs => pdOf x :: pdOfs xs
end
theorem pdOfs_map : ∀ xs : List D, pdOfs xs = xs.map pdOf
  | [] => rfl
  | x :: xs => by unfold pdOfs; rw [pdOfs_map xs]; rfl
mutual
theorem toks_eq : ∀ d : D, PySem.W.keyToks (pdOf d) = tokD d
  | .non => rfl
  | .bl b => rfl
  | .int i => rfl
  | .str x => by
    show [Sum.inr (sS x).cps.toList] = _
    rw [sS_cps]
    rfl
  | .tup xs => by
    show PySem.W.keyToksAll (pdOfs xs) = _
    rw [toks_eqs xs]
    rfl
  | .ref _ => rfl
  | .fro xs => by
    show PySem.W.keyToksAll (pdOfs xs) = _
    rw [toks_eqs xs]
    rfl
theorem toks_eqs : ∀ xs : List D, PySem.W.keyToksAll (pdOfs xs) = tokDs xs
  | [] => rfl
  | x :: xs => by
    show Sum.inl 1 :: (PySem.W.keyToks (pdOf x) ++ PySem.W.keyToksAll (pdOfs xs)) = _
    rw [toks_eq x, toks_eqs xs]
    rfl
end
theorem tokLt_eq (a b : Tok) : PyProof.Rows.itemLt a b = tokLt a b := by
  cases a <;> cases b <;> rfl
theorem toksLt_eq : ∀ a b : List Tok, PyProof.Rows.lexLt PyProof.Rows.itemOrd a b = toksLt a b
  | [], [] => rfl
  | [], _ :: _ => rfl
  | _ :: _, [] => rfl
  | x :: r, y :: t => by
    show (PyProof.Rows.itemLt x y || (!PyProof.Rows.itemLt y x && PyProof.Rows.lexLt PyProof.Rows.itemOrd r t)) = _
    rw [tokLt_eq, tokLt_eq, toksLt_eq r t]
    rfl
theorem le_eq : PySem.W.dataLe false pdOf = leD := by
  funext a b
  show (!PyProof.Rows.lexLt PyProof.Rows.itemOrd (PySem.W.keyToks (pdOf b)) (PySem.W.keyToks (pdOf a))) = _
  rw [toks_eq, toks_eq, toksLt_eq]
  rfl
mutual
theorem alike_eq : ∀ a b : D, alkD a b = true → PySem.W.alike (pdOf a) (pdOf b) = true
  | .non, .non, _ => rfl
  | .bl _, .bl _, _ => rfl
  | .int _, .int _, _ => rfl
  | .str _, .str _, _ => rfl
  | .tup xs, .tup ys, h => alike_eqs xs ys h
  | .non, .bl _, h => by cases h
  | .non, .int _, h => by cases h
  | .non, .str _, h => by cases h
  | .non, .tup _, h => by cases h
  | .non, .ref _, h => by cases h
  | .non, .fro _, h => by cases h
  | .bl _, .non, h => by cases h
  | .bl _, .int _, h => by cases h
  | .bl _, .str _, h => by cases h
  | .bl _, .tup _, h => by cases h
  | .bl _, .ref _, h => by cases h
  | .bl _, .fro _, h => by cases h
  | .int _, .non, h => by cases h
  | .int _, .bl _, h => by cases h
  | .int _, .str _, h => by cases h
  | .int _, .tup _, h => by cases h
  | .int _, .ref _, h => by cases h
  | .int _, .fro _, h => by cases h
  | .str _, .non, h => by cases h
  | .str _, .bl _, h => by cases h
  | .str _, .int _, h => by cases h
  | .str _, .tup _, h => by cases h
  | .str _, .ref _, h => by cases h
  | .str _, .fro _, h => by cases h
  | .tup _, .non, h => by cases h
  | .tup _, .bl _, h => by cases h
  | .tup _, .int _, h => by cases h
  | .tup _, .str _, h => by cases h
  | .tup _, .ref _, h => by cases h
  | .tup _, .fro _, h => by cases h
  | .ref _, _, h => by cases h
  | .fro xs, .fro ys, h => alike_eqs xs ys h
  | .fro _, .non, h => by cases h
  | .fro _, .bl _, h => by cases h
  | .fro _, .int _, h => by cases h
  | .fro _, .str _, h => by cases h
  | .fro _, .tup _, h => by cases h
  | .fro _, .ref _, h => by cases h
theorem alike_eqs : ∀ a b : List D, alkDs a b = true → PySem.W.alikeAll (pdOfs a) (pdOfs b) = true
  | [], [], _ => rfl
  | [], _ :: _, _ => rfl
  | _ :: _, [], _ => rfl
  | x :: xs, y :: ys, h => by
    have h : (alkD x y && alkDs xs ys) = true := h
    rw [Bool.and_eq_true] at h
    show (PySem.W.alike (pdOf x) (pdOf y) && PySem.W.alikeAll (pdOfs xs) (pdOfs ys)) = true
    rw [alike_eq x y h.1, alike_eqs xs ys h.2]
    rfl
end
mutual
theorem depth_eq : ∀ d : D, d.dep < 1000 → (pdOf d).depth ≤ d.dep
  | .non, _ => Nat.le_refl _
  | .bl _, _ => Nat.le_refl _
  | .int _, _ => Nat.le_refl _
  | .str _, _ => Nat.le_refl _
  | .tup xs, h => by
    show (PyData.tuple (pdOfs xs)).depth ≤ (D.tup xs).dep
    have h : D.deps xs + 1 < 1000 := h
    have := depth_eqs xs (by omega)
    unfold D.dep PyData.depth
    omega
  | .ref _, _ => Nat.zero_le _
  | .fro _, h => absurd h (by unfold D.dep; omega)
theorem depth_eqs : ∀ xs : List D, D.deps xs < 1000 → PyData.depthAll (pdOfs xs) ≤ D.deps xs
  | [], _ => Nat.le_refl _
  | x :: xs, h => by
    unfold D.deps at h
    have a := depth_eq x (by omega)
    have b := depth_eqs xs (by omega)
    unfold pdOfs D.deps PyData.depthAll
    omega
end
section
variable {X : L2.Cx} {pins : List (Addr × Obj)} {s : Shared} {σ : L2.St} {H : Hp} {r : List Addr}
mutual
theorem reads_of (I : Inv X pins σ H s) : ∀ (d : D) (x : V) (v : Value), alkD d d = true → d.dep < 1000 → VR X.K r H d x → RelV x v → Reads s.heap v (pdOf d) []
  | .non, x, v, _, _, h, q => by
    unfold VR at h
    subst h
    obtain rfl : v = Value.none := q
    exact .none
  | .bl b, x, v, _, _, h, q => by
    unfold VR at h
    subst h
    obtain rfl : v = Value.bool b := q
    exact .bool b
  | .int i, x, v, _, _, h, q => by
    unfold VR at h
    subst h
    obtain ⟨t, rfl⟩ : ∃ t, v = Value.int i t := q
    exact .int i t
  | .str y, x, v, _, _, h, q => by
    unfold VR at h
    subst h
    obtain ⟨t, rfl⟩ : ∃ t, v = Value.str (sS y) t := q
    exact .str _ t
  | .tup xs, x, v, a, k, h, q => by
    unfold VR at h
    obtain ⟨p, vs, rfl, h1, h2⟩ := h
    obtain rfl : v = Value.ref p := q
    obtain ⟨its, rv, ⟨o, e1, e2, n, e3⟩, _⟩ := I.tuple h1
    have e3' : o.data = .seq its.toArray n := e3
    exact .tuple e1 e2 e3' (reads_ofs I xs vs its a (by unfold D.dep at k; omega) h2 rv)
  | .ref _, _, _, a, _, _, _ => by cases a
  | .fro _, _, _, _, k, _, _ => absurd k (by unfold D.dep; omega)
theorem reads_ofs (I : Inv X pins σ H s) : ∀ (ds : List D) (xs : List V) (vs : List Value), alkDs ds ds = true → D.deps ds < 1000 → VRs X.K r H ds xs → Vals xs vs → ReadsAll s.heap vs (pdOfs ds) []
  | [], xs, vs, _, _, h, q => by
    unfold VRs at h
    subst h
    cases q
    exact .nil
  | d :: ds, xs, vs, a, k, h, q => by
    unfold VRs at h
    obtain ⟨x, xr, rfl, h1, h2⟩ := h
    cases q with
    | cons q1 q2 =>
      have a : (alkD d d && alkDs ds ds) = true := a
      rw [Bool.and_eq_true] at a
      unfold D.deps at k
      exact ReadsAll.cons (as := []) (bs := []) (reads_of I d _ _ a.1 (by omega) h1 q1) (reads_ofs I ds _ _ a.2 (by omega) h2 q2)
end
/-- a value that stands for a datum -/
def StV (K : PySem.W.Frag) (r : List Addr) (H : Hp) (v : Value) (d : D) : Prop := ∃ x, VR K r H d x ∧ RelV x v
theorem each_stv {K : PySem.W.Frag} : ∀ {ds : List D} {xs : List V} {vs : List Value}, VRs K r H ds xs → Vals xs vs → PySem.W.EachIs (StV K r H) vs ds
  | [], xs, vs, h, q => by
    unfold VRs at h
    subst h
    cases q
    exact .nil
  | d :: ds, xs, vs, h, q => by
    unfold VRs at h
    obtain ⟨x, xr, rfl, h1, h2⟩ := h
    cases q with
    | cons q1 q2 => exact .cons ⟨x, h1, q1⟩ (each_stv h2 q2)
theorem stv_each {K : PySem.W.Frag} : ∀ {ds : List D} {vs : List Value}, PySem.W.EachIs (StV K r H) vs ds → ∃ xs, VRs K r H ds xs ∧ Vals xs vs
  | _, _, .nil => ⟨[], by unfold VRs; rfl, .nil⟩
  | d :: ds, v :: vs, .cons ⟨x, h1, h2⟩ t => by
    obtain ⟨xs, q1, q2⟩ := stv_each t
    exact ⟨x :: xs, by unfold VRs; exact ⟨x, xs, rfl, h1, q1⟩, .cons h2 q2⟩
end
section
variable {X : L2.Cx} {ck : Arguments → List Stmt → Scope → FDef → Bool} {c : Cx} {N : List String} {sc : Scope} {E : L2.St → XK} {r : List Addr} {H : Hp} {g : G} {Q : VK} {pins : List (Addr × Obj)} {s : Shared} {σ : L2.St} {e : Env}
def sorK (x : D) (g : G) : Uk.R D := match x with
  | .ref r => orElse (lsOf g r) fun xs => if sortB xs then newL (xs.mergeSort leD) g else .bad
  | _ => .bad
theorem sortB_ok {xs : List D} (h : sortB xs = true) : PySem.W.AllAlike (xs.map pdOf) ∧ PySem.W.Sortable (xs.map pdOf) ∧ (∀ x ∈ xs, alkD x x = true) ∧ ∀ x ∈ xs, x.dep ≤ 60 := by
  unfold sortB at h
  rw [Bool.and_eq_true, Bool.and_eq_true] at h
  obtain ⟨⟨h1, h2⟩, h3⟩ := h
  rw [List.all_eq_true] at h1 h2
  have h2 : ∀ x ∈ xs, ∀ y ∈ xs, alkD x y = true := fun x hx y hy => List.all_eq_true.mp (h2 x hx) y hy
  refine ⟨fun d hd d' hd' => ?_, .inl fun d hd => ?_, fun x hx => h2 x hx x hx, fun x hx => ?_⟩
  · obtain ⟨x, hx, rfl⟩ := List.mem_map.mp hd
    obtain ⟨y, hy, rfl⟩ := List.mem_map.mp hd'
    exact alike_eq x y (h2 x hx y hy)
  · obtain ⟨x, hx, rfl⟩ := List.mem_map.mp hd
    have := h1 x hx
    cases x with
    | tup ys =>
      cases ys with
      | nil => cases this
      | cons y ys => exact ⟨pdOf y, pdOfs ys, rfl⟩
    | _ => cases this
  · have h3 : D.deps xs ≤ 60 := of_decide_eq_true h3
    have : ∀ (l : List D), x ∈ l → x.dep ≤ D.deps l := by
      intro l
      induction l with
      | nil => intro z; cases z
      | cons a l ih =>
        intro z
        unfold D.deps
        rcases List.mem_cons.mp z with z | z
        · rw [z]; exact Nat.le_max_left _ _
        · exact Nat.le_trans (ih z) (Nat.le_max_right _ _)
    exact Nat.le_trans (this xs hx) h3
/-- sorted(a), a a list of tuples of data -/
theorem pe_sor {a : PySem.Expr} {p pos : Pos} {m : Env → G → Uk.R D} (O : XOk X ck c N sc E) (hg : glB sc (sS "sorted") = true) (ha : PE X a (LE X E m)) (hpl : plainP a = true) :
    PE X (.Call (.Name (sS "sorted") p) [a] [] pos) (LE X E fun e g => (m e g).bind fun x g => sorK x g) := by
  obtain ⟨gl, nd, nn⟩ := pe_callD.gl_of O hg
  have hm2 : X.mg "sorted" = none := O.gf.blt "sorted" (by simp [bnames])
  refine ⟨fun pins s σ H Q I ⟨r, g, e, R, er, hp⟩ => ?_⟩
  have na := star_plain (ps := []) (env := X.env) hpl
  refine Call_ (ld_blt I gl hm2 PyProof.Rows.boot_sorted ?_)
  refine PyProof.Rows.callWith_builtin1 (PyProof.Rows.args_cons (LE.seq ha I R er hp fun u s1 r1 g1 H1 d v I1 x R1 er1 hv ru hp => PyProof.Rows.args_nil ?_) na) na rfl
  cases d with
  | ref i =>
    unfold sorK at hp
    dsimp only at hp
    cases hl : lsOf g1 i with
    | none => rw [hl] at hp; exact hp.elim
    | some xs =>
      rw [hl] at hp
      have hp : Post X.K X.mg X.w (E σ) r1 H1 (if sortB xs then newL (xs.mergeSort leD) g1 else .bad) Q := hp
      cases hb : sortB xs with
      | false => rw [hb] at hp; exact hp.elim
      | true =>
        rw [hb] at hp
        have hp : Post X.K X.mg X.w (E σ) r1 H1 (newL (xs.mergeSort leD) g1) Q := hp
        obtain ⟨q, ws, ep, rfl, h1, h2⟩ := R1.lst hl hv
        obtain rfl : u = Value.ref q := ru
        obtain ⟨its, rv, pl, hz⟩ := I1.list (SqL.of (K := X.K) h1)
        obtain ⟨b1, b2, b3, b4⟩ := sortB_ok hb
        have hlen : xs.length = ws.length := h2.length.symm
        have hlm : (xs.mergeSort leD).length = xs.length := List.length_mergeSort _
        have ev := each_stv h2 rv
        refine PySem.W.sorted_data (R := StV X.K r1 H1) (enc := pdOf) (bs := xs) pl.isList ev ?_ b1 b2 (by omega) (fun b hb => ?_) fun out ho eo => ?_
        · refine (PySem.W.each_mem ev).mono fun v d ⟨⟨x, q1, q2⟩, hd⟩ => ⟨[], reads_of I1 d x v (b3 d hd) (by have := b4 d hd; omega) q1 q2⟩
        · have := b4 b hb
          have := depth_eq b (by omega)
          have := O.units
          omega
        · rw [le_eq] at eo
          obtain ⟨ys, hy, hv2⟩ := stv_each eo
          have hyl : ys.length ≤ sizeLine := by
            rw [hy.length, hlm, hlen]
            exact hz
          unfold newL at hp
          rw [if_pos (by rw [hlm, hlen]; exact hz)] at hp
          obtain ⟨ep2, he'⟩ := PyProof.Rows.sortedAll_at s1.heap its (List.toArray out)
          have hn : H1 (s1.heap.objs.size + 1) = none := I1.hok.fresh (Nat.le_succ _)
          refine ⟨.ref _, upd H1 (s1.heap.objs.size + 1) (.lst ys), I1.laid (t' := s1.toks) (fun _ _ => PyProof.Rows.sortedAll_old) (Nat.le_succ _) ⟨hyl, out, ep2, hv2, he'⟩, rfl, Post.newLst hp R1 hy hn⟩
  | _ => exact hp.elim
def revK (x : D) (g : G) : Uk.R D := match x with
  | .ref r => orElse (lsOf g r) fun xs => newL xs.reverse g
  | _ => .bad
theorem pe_rev {a : PySem.Expr} {k : Nat} {p1 p2 p3 pos : Pos} {m : Env → G → Uk.R D} (ha : PE X a (LE X E m)) :
    PE X (.Subscript a (.Slice none none (some (.UnaryOp .USub (.Constant (.int 1) k p1) p2)) p3) pos) (LE X E fun e g => (m e g).bind fun x g => revK x g) := by
  refine ⟨fun pins s σ H Q I ⟨r, g, e, R, er, hp⟩ => (pe_revL ha).run pins s σ H Q I (LE.bind R er hp fun r1 g1 H1 d1 v1 x1 R1 er1 q1 hp => ?_)⟩
  cases d1 with
  | ref i =>
    unfold revK at hp
    dsimp only at hp
    cases hl : lsOf g1 i with
    | none => rw [hl] at hp; exact hp.elim
    | some xs =>
      rw [hl] at hp
      have hp : Post X.K X.mg X.w (E σ) r1 H1 (newL xs.reverse g1) Q := hp
      obtain ⟨q, ws, ep, rfl, h1, h2⟩ := R1.lst hl q1
      refine ⟨q, ws, rfl, SqL.of (K := X.K) h1, fun p hn => ?_⟩
      unfold newL at hp
      by_cases hz : xs.reverse.length ≤ line
      · rw [if_pos hz] at hp
        exact Post.newLst hp R1 h2.reverse hn
      · rw [if_neg hz] at hp
        exact hp.elim
  | _ => exact hp.elim
end
end Uk
end
section
set_option Elab.async false
set_option linter.all false
set_option maxRecDepth 100000
set_option autoImplicit false
set_option maxHeartbeats 1000000
namespace Uk
open PySem PySem.Spec PyProof.Rows L2
/-! ## sorted(xs, key=lambda y: f(y)) -/
theorem among_more {pos : Pos} {cv : Value} (m : List Value) (l : List Value) (h : TriplesOk l) (hc : codeAmong pos l = some cv) : codeAmong pos (l ++ m) = some cv := by
  fun_induction TriplesOk l with
  | case1 => simp [codeAmong] at hc
  | case2 a t b u x rest ih =>
    simp only [List.cons_append, codeAmong] at hc ⊢
    split at hc
    · rename_i q
      rw [if_pos q]
      exact hc
    · rename_i q
      rw [if_neg q]
      exact ih h hc
  | case3 l h1 h2 => exact h.elim
theorem clo_nofree (cells : List (Str × Addr)) : ∀ (l : List (Str × NameKind)) (acc : List (Str × Addr)), (∀ y ∈ l, y.2 ≠ .free) → cloFrom cells l acc = acc
  | [], acc, _ => rfl
  | (n, k) :: r, acc, h => by
    have hk : (k == NameKind.free) = false := beq_eq_false_iff_ne.mpr (h (n, k) (List.mem_cons_self ..))
    unfold cloFrom
    rw [hk]
    exact clo_nofree cells r acc fun y hy => h y (List.mem_cons_of_mem _ hy)
section
variable {X : L2.Cx} {pins : List (Addr × Obj)} {s : Shared} {σ : L2.St} {H : Hp} {r : List Addr} {g : G}
/-- the state behind a lambda's making: its object at f, its code object c in the table at P -/
structure LamAt (X : L2.Cx) (params : Arguments) (body : PySem.Expr) (scope : Scope) (pos : Pos) (f c P : Addr) (H : Hp) (h : Heap) : Prop where
  fn : ∃ pm ctv, h.get? f = some (PySem.W.kla_obj "<lambda>" (X.env.qual ++ "<lambda>") params body scope [] pm c ctv)
  nt : H f = none
  tb : ∃ ps : Array Value, H P = some (.tbl ps) ∧ TriplesOk ps.toList ∧ codeAmong pos ps.toList = some (.ref c)
theorem lam_made (I : Inv X pins σ H s) (R : Rel X.K X.mg X.w r g H) (L : LamOk X) {params : Arguments} {body : PySem.Expr} {scope : Scope} {pos : Pos} {Q E : Value → Shared → Prop} (hdef : defaultsOf params X.env = ([], [])) (hfree : ∀ y ∈ scope.names, y.2 ≠ .free)
    (h : ∀ (f c P c0 : Addr) (H1 : Hp) (s1 : Shared), Inv X pins σ H1 s1 → Ext r H r H1 → Rel X.K X.mg X.w r g H1 → LamAt X params body scope pos f c P H1 s1.heap → FpOk X pins H1 f → (c0, P, X.env.qual ++ "<lambda>") ∈ tbs X.K → Q (.ref f) s1) :
    wpAny (model X.prog X.w) X.A (eval (.Lambda params body scope pos) X.env) Q E s := by
  obtain ⟨c0, P, hcode, hmem, huni, TB⟩ := L
  obtain ⟨ps, hP, ht, hall⟩ := R.tab _ hmem
  have clo : closureFor scope X.env = pure [] := by
    rw [closure_ok (fun y hy z => absurd z (hfree y hy)), clo_nofree _ _ _ hfree]
  refine PySem.W.kla_eval hdef ?_
  have bP : s.heap.BuiltinsAt X.mg P := TB.bm.keeps I.bk
  have gP : s.heap.get? P = some { cls := .none, data := .fields ps } := I.hok P _ hP
  cases hc : codeAmong pos ps.toList with
  | some cv =>
    obtain ⟨c1, e1, hco, hnr⟩ := hall pos cv hc
    subst e1
    refine PySem.W.kla_makeFunctionHit (mg := X.mg) (c := c0) (P := P) (ps := ps) clo I.ok.glob (I.mod.glob.keeps I.bk) hcode (TB.code.keeps I.bk) gP ht hc bP fun ctv h1 tk hx hsz => ?_
    have I1 : Inv X pins σ H { s with heap := h1.push (PySem.W.kla_obj "<lambda>" (X.env.qual ++ "<lambda>") params body scope [] ((X.mg "__name__").getD .none) c1 ctv), toks := tk } := I.kept fun b o e => Heap.get?_push_of_some _ (hx b o e)
    have hn : H h1.objs.size = none := I.hok.fresh hsz
    exact h _ c1 P c0 H _ I1 (.refl _ _) R ⟨⟨_, _, Heap.get?_push_size _ rfl⟩, hn, ps, hP, ht, hc⟩ (I.fpOk hsz hn) hmem
  | none =>
    refine PySem.W.kla_makeFunction (mg := X.mg) (c := c0) (P := P) (ps := ps) clo I.ok.glob (I.mod.glob.keeps I.bk) hcode (TB.code.keeps I.bk) gP ht hc TB.gP bP fun c1 ctv h1 tk hx hge hlt hrec htb => ?_
    obtain ⟨c2, oc, vs, t, e2, hoc, hd, hv⟩ := hrec
    cases e2
    have hsz : s.heap.objs.size ≤ h1.objs.size := Nat.le_trans hge (Nat.le_of_lt hlt)
    have nC : H c1 = none := I.hok.fresh hge
    have nPc : P ≠ c1 := ne_of_none hP nC
    have hn0 : H h1.objs.size = none := I.hok.fresh hsz
    have I1 := LamX.inv_table (t' := tk) (q := X.env.qual ++ "<lambda>") (more := #[rawInt pos.line, rawInt pos.col, .ref c1]) (h' := h1.push (PySem.W.kla_obj "<lambda>" (X.env.qual ++ "<lambda>") params body scope [] ((X.mg "__name__").getD .none) c1 ctv)) I hP
      (fun b o hb e => Heap.get?_push_of_some _ (hx b o hb e)) (Heap.get?_push_of_some _ htb) hge ⟨oc, vs, t, Heap.get?_push_of_some _ hoc, hd, hv⟩
    have same : ∀ b, b ≠ P → b ≠ c1 → upd (upd H P (.tbl (ps ++ #[rawInt pos.line, rawInt pos.col, .ref c1]))) c1 (LamX.CodeO c1 (X.env.qual ++ "<lambda>")) b = H b := fun b z1 z2 => by rw [upd_ne z2, upd_ne z1]
    have atP : upd (upd H P (.tbl (ps ++ #[rawInt pos.line, rawInt pos.col, .ref c1]))) c1 (LamX.CodeO c1 (X.env.qual ++ "<lambda>")) P = some (.tbl (ps ++ #[rawInt pos.line, rawInt pos.col, .ref c1])) := by rw [upd_ne nPc, upd_same]
    have old : ∀ b u, H b = some u → b ≠ P → upd (upd H P (.tbl (ps ++ #[rawInt pos.line, rawInt pos.col, .ref c1]))) c1 (LamX.CodeO c1 (X.env.qual ++ "<lambda>")) b = some u := fun b u e z => by rw [same b z (ne_of_none e nC)]; exact e
    have notP : ∀ b u, H b = some u → (∀ q, u ≠ .tbl q) → b ≠ P := fun b u e q z => by
      rw [z, hP] at e
      exact q ps (Option.some.inj e).symm
    have xt : Ext r H r (upd (upd H P (.tbl (ps ++ #[rawInt pos.line, rawInt pos.col, .ref c1]))) c1 (LamX.CodeO c1 (X.env.qual ++ "<lambda>"))) := ⟨⟨[], by simp⟩, fun b xs e => old b _ e (notP b _ e fun q z => by cases z), fun b o u e => old b _ e (notP b _ e fun q z => by cases z), fun b qs e => old b _ e (notP b _ e fun q z => by cases z)⟩
    have hPr : P ∉ r := R.tabN hmem
    have hcr : c1 ∉ r := R.fresh nC
    have eL : (ps ++ #[rawInt pos.line, rawInt pos.col, .ref c1]).toList = ps.toList ++ [rawInt pos.line, rawInt pos.col, .ref c1] := by simp
    have R1 : Rel X.K X.mg X.w r g (upd (upd H P (.tbl (ps ++ #[rawInt pos.line, rawInt pos.col, .ref c1]))) c1 (LamX.CodeO c1 (X.env.qual ++ "<lambda>"))) := by
      refine ⟨R.len, R.nd, fun i b o e1 e2 => (R.at_ i b o e1 e2).mono xt (same b (fun z => hPr ?_) fun z => hcr ?_), fun q hq => ?_⟩
      · rw [← z]; exact List.mem_of_getElem? e1
      · rw [← z]; exact List.mem_of_getElem? e1
      · by_cases hb : q.2.1 = P
        · refine ⟨ps ++ #[rawInt pos.line, rawInt pos.col, .ref c1], by rw [hb]; exact atP, by rw [eL]; exact PySem.TriplesOk_snoc _ _ _ _ ht, fun p2 cv hcv => ?_⟩
          rw [eL] at hcv
          rcases LamX.among_app _ ht hcv with z | z
          · obtain ⟨c3, e3, e4, e5⟩ := hall p2 cv z
            refine ⟨c3, e3, ?_, e5⟩
            rw [huni q hq hb]
            exact old _ _ e4 (notP _ _ e4 fun q z => by cases z)
          · refine ⟨c1, z, ?_, hcr⟩
            rw [huni q hq hb]
            exact upd_same
        · obtain ⟨qs, a1, a2, a3⟩ := R.tab q hq
          refine ⟨qs, old _ _ a1 hb, a2, fun p2 cv hcv => ?_⟩
          obtain ⟨c3, e3, e4, e5⟩ := a3 p2 cv hcv
          exact ⟨c3, e3, old _ _ e4 (notP _ _ e4 fun q z => by cases z), e5⟩
    have n1 : h1.objs.size ≠ c1 := Nat.ne_of_gt hlt
    have n2 : h1.objs.size ≠ P := Nat.ne_of_gt (Nat.lt_of_lt_of_le (Heap.lt_size gP) hsz)
    have hnf : upd (upd H P (.tbl (ps ++ #[rawInt pos.line, rawInt pos.col, .ref c1]))) c1 (LamX.CodeO c1 (X.env.qual ++ "<lambda>")) h1.objs.size = none := by rw [same _ n2 n1]; exact hn0
    exact h _ c1 P c0 _ _ I1 xt R1 ⟨⟨_, _, Heap.get?_push_size _ rfl⟩, hnf, _, atP, by rw [eL]; exact PySem.TriplesOk_snoc _ _ _ _ ht, by rw [eL]; exact codeAmong_snoc _ ht hc⟩ (I.fpOk hsz hnf) hmem
/-- a lambda called -/
theorem run_lam {Prog : Program} {w : World} {K : PySem.W.Frag} {mg : Str → Option Value} {base : Heap} {CX : CXT} {f c : Addr} {y qual : Str} {params : Arguments} {body : PySem.Expr} {scope : Scope} {pm ctv : Value} {A : Around} {outer : List PySem.Env} {s : Shared} {H : Hp} {E : XK} {Q : VK} {u : Value} {v : V} {t : TE}
    (hf : s.heap.get? f = some (PySem.W.kla_obj "<lambda>" qual params body scope [] pm c ctv)) (hcd : s.heap.CodeRec (.ref c) qual) (S : FnScope [y] [y] scope) (hd : A.handled = none) (hdp : A.depth < recursionLimit) (e0 : Env0 Prog w K mg base A outer s H)
    (hb : bindArgs (PySem.W.kla_fn "<lambda>" qual params body scope [] pm (.ref c) ctv) ⟨[u], []⟩ = pure [(y, u)]) (rv : RelV v u)
    (hbody : PE (cxOf CX Prog w K mg base [y] qual scope f (.ref c) A outer s H E) body t) (ht : t (L2.start [y] [v]) H Q) : codeAny (model Prog w) A (.call (.ref f) ⟨[u], []⟩) (CR CX outer Prog w H s Q E) s := by
  have lim : s.heap.NoLimit := e0.mod.nolimit.keeps fun b o e => (e0.bs b o e).1
  refine PySem.W.kla_callFunE hdp hf rfl S.co S.gen rfl hcd ?_
  rw [hb]
  refine wpAny_pure ?_
  have hk : ∀ z ∈ [(y, u)], scope.names.lookup z.1 = some .local ∨ (scope.names.lookup z.1 = some .cell ∧ ((cellsFrom (s.heap.objs.size + 1) scope.names []).lookup z.1).isSome = true) := fun z hz => by
    rw [List.mem_singleton.mp hz]
    rcases S.par y (List.mem_singleton.mpr rfl) with q | q
    · exact .inl q
    · exact .inr ⟨q, PySem.W.cellsFrom_some _ _ _ (.inl q)⟩
  refine wpAny_newFunctionEnv_cells S.kind hk fun env he s1 x => ?_
  subst he
  refine ⟨lim.keeps x.toInCall.keep, ?_⟩
  have I : Inv (cxOf CX Prog w K mg base [y] qual scope f (.ref c) A outer s H E) [] (L2.start [y] [v]) H s1 := inv_start S hd e0 rfl (.cons rv .nil) x
  refine PySem.W.kla_codeExpr (wpAny_mono (hbody.run [] s1 _ H Q I ht) (fun v2 s2 hq => ?_) fun e s2 hq => hq)
  obtain ⟨w', H', J, r2, q⟩ := hq
  exact ⟨w', H', J.os, J.bare, J.base, J.hok, r2, q⟩
end
/-! ### the keys -/
theorem allO_cons {α : Type} {o : Option α} {l : List (Option α)} {r : List α} (h : allO (o :: l) = some r) : ∃ x q, o = some x ∧ r = x :: q ∧ allO l = some q := by
  cases o with
  | none => cases h
  | some x =>
    have h : (allO l).map (x :: ·) = some r := h
    cases hl : allO l with
    | none => rw [hl] at h; cases h
    | some q => rw [hl] at h; cases h; exact ⟨x, q, rfl, rfl, rfl⟩
theorem allO_length {α : Type} : ∀ {l : List (Option α)} {r : List α}, allO l = some r → r.length = l.length
  | [], r, h => by cases h; rfl
  | o :: l, r, h => by
    obtain ⟨x, q, _, rfl, h2⟩ := allO_cons h
    rw [List.length_cons, List.length_cons, allO_length h2]
theorem rsv_depths {g : G} {n : Nat} (ih : ∀ d d', rsv g n d = some d' → (pdOf d').depth ≤ n) : ∀ (ds : List D) (ds' : List D), allO (ds.map (rsv g n)) = some ds' → PyData.depthAll (pdOfs ds') ≤ n
  | [], ds', h => by cases h; exact Nat.zero_le _
  | d :: ds, ds', h => by
    obtain ⟨x, q, h1, rfl, h2⟩ := allO_cons h
    have a := ih d x h1
    have b := rsv_depths ih ds q h2
    unfold pdOfs PyData.depthAll
    omega
theorem rsv_depth {g : G} : ∀ (n : Nat) (d d' : D), rsv g n d = some d' → (pdOf d').depth ≤ n
  | 0, d, d', h => by cases h
  | n + 1, d, d', h => by
    unfold rsv at h
    cases d with
    | tup xs =>
      obtain ⟨ys, h1, rfl⟩ := Option.map_eq_some_iff.mp h
      have := rsv_depths (rsv_depth n) xs ys h1
      show (PyData.tuple (pdOfs ys)).depth ≤ n + 1
      unfold PyData.depth
      omega
    | ref i =>
      obtain ⟨xs, _, h⟩ := Option.bind_eq_some_iff.mp h
      obtain ⟨ys, h1, rfl⟩ := Option.map_eq_some_iff.mp h
      have := rsv_depths (rsv_depth n) xs ys h1
      show (PyData.list (pdOfs ys)).depth ≤ n + 1
      unfold PyData.depth
      omega
    | fro _ => cases h
    | non => cases h; exact Nat.zero_le _
    | bl _ => cases h; exact Nat.zero_le _
    | int _ => cases h; exact Nat.zero_le _
    | str _ => cases h; exact Nat.zero_le _
section
variable {X : L2.Cx} {pins : List (Addr × Obj)} {s : Shared} {σ : L2.St} {H : Hp} {r : List Addr} {g : G}
theorem keys_reads {n : Nat} (ih : ∀ (d d' : D) (x : V) (v : Value), rsv g n d = some d' → VR X.K r H d x → RelV x v → ∃ as, Reads s.heap v (pdOf d') as) : ∀ (ds ds' : List D) (xs : List V) (vs : List Value), allO (ds.map (rsv g n)) = some ds' → VRs X.K r H ds xs → Vals xs vs → ∃ as, ReadsAll s.heap vs (pdOfs ds') as
  | [], ds', xs, vs, h, q, rv => by
    cases h
    rw [VRs.nil_iff.mp q] at rv
    cases rv
    exact ⟨[], .nil⟩
  | d :: ds, ds', xs, vs, h, q, rv => by
    obtain ⟨y, t, h1, rfl, h2⟩ := allO_cons h
    obtain ⟨x, xr, rfl, q1, q2⟩ := q.inv
    cases rv with
    | cons r1 r2 =>
      obtain ⟨as, a⟩ := ih d y x _ h1 q1 r1
      obtain ⟨bs, b⟩ := keys_reads ih ds t xr _ h2 q2 r2
      exact ⟨as ++ bs, .cons a b⟩
theorem key_reads (I : Inv X pins σ H s) (R : Rel X.K X.mg X.w r g H) : ∀ (n : Nat) (d d' : D) (x : V) (v : Value), rsv g n d = some d' → VR X.K r H d x → RelV x v → ∃ as, Reads s.heap v (pdOf d') as
  | 0, d, d', x, v, h, _, _ => by cases h
  | n + 1, d, d', x, v, h, q, rv => by
    unfold rsv at h
    cases d with
    | tup xs =>
      obtain ⟨ys, h1, rfl⟩ := Option.map_eq_some_iff.mp h
      obtain ⟨p, vs, rfl, q1, q2⟩ := q.tup_inv
      obtain rfl : v = Value.ref p := rv
      obtain ⟨its, rvs, ⟨o, e1, e2, k, e3⟩, _⟩ := I.tuple q1
      have e3' : o.data = .seq its.toArray k := e3
      obtain ⟨as, a⟩ := keys_reads (key_reads I R n) xs ys vs its h1 q2 rvs
      exact ⟨as, .tuple e1 e2 e3' a⟩
    | ref i =>
      obtain ⟨xs, h0, h⟩ := Option.bind_eq_some_iff.mp h
      obtain ⟨ys, h1, rfl⟩ := Option.map_eq_some_iff.mp h
      obtain ⟨p, vs, _, rfl, q1, q2⟩ := R.lst h0 q
      obtain rfl : v = Value.ref p := rv
      obtain ⟨z, its, k, rvs, hob⟩ := I.hok p _ q1
      obtain ⟨as, a⟩ := keys_reads (key_reads I R n) xs ys vs its h1 q2 rvs
      exact ⟨p :: as, .list hob rfl rfl a⟩
    | fro _ => cases h
    | non =>
      cases h
      rw [q.non_inv] at rv
      obtain rfl : v = Value.none := rv
      exact ⟨[], .none⟩
    | bl b =>
      cases h
      rw [q.bl_inv] at rv
      obtain rfl : v = Value.bool b := rv
      exact ⟨[], .bool b⟩
    | int i =>
      cases h
      rw [q.int_inv] at rv
      obtain ⟨t, rfl⟩ := rv
      exact ⟨[], .int i t⟩
    | str y =>
      cases h
      rw [q.str_inv] at rv
      obtain ⟨t, rfl⟩ := rv
      exact ⟨[], .str _ t⟩
theorem each_key (I : Inv X pins σ H s) (R : Rel X.K X.mg X.w r g H) : ∀ {ds ds' : List D} {xs : List V} {vs : List Value}, allO (ds.map (rsv g 6)) = some ds' → VRs X.K r H ds xs → Vals xs vs → PySem.W.EachIs (fun v k => ∃ as, Reads s.heap v k as) vs (ds'.map pdOf)
  | [], ds', xs, vs, h, q, rv => by
    cases h
    rw [VRs.nil_iff.mp q] at rv
    cases rv
    exact .nil
  | d :: ds, ds', xs, vs, h, q, rv => by
    obtain ⟨y, t, h1, rfl, h2⟩ := allO_cons h
    obtain ⟨x, xr, rfl, q1, q2⟩ := q.inv
    cases rv with
    | cons r1 r2 => exact .cons (key_reads I R 6 d y x _ h1 q1 r1) (each_key I R h2 q2 r2)
/-- one more object that has to stay -/
theorem Inv.pinned {b : Addr} {o : Obj} (I : Inv X pins σ H s) (f : FpOk X pins H b) (e : s.heap.get? b = some o) (nc : ∀ v, o.data ≠ .cell v) : Inv X ((b, o) :: pins) σ H s :=
  ⟨I.ok, I.os, I.bare, I.base, I.loc, I.cell, I.free, I.freeC, fun p hp => by
    rcases List.mem_append.mp hp with z | z
    · exact I.pin p (List.mem_append_left _ z)
    · rcases List.mem_cons.mp z with z | z
      · rw [z]
        exact ⟨e, f.1, f.2.1, f.2.2.1, nc⟩
      · exact I.pin p (List.mem_append_right _ z), I.hok, I.len⟩
theorem Inv.unpinned {p : Addr × Obj} (I : Inv X (p :: pins) σ H s) : Inv X pins σ H s :=
  ⟨I.ok, I.os, I.bare, I.base, I.loc, I.cell, I.free, I.freeC, fun q hq => I.pin q (by
    rcases List.mem_append.mp hq with z | z
    · exact List.mem_append_left _ z
    · exact List.mem_append_right _ (List.mem_cons_of_mem _ z)), I.hok, I.len⟩
/-- an object of one's own becomes known, another one is forgotten -/
theorem Inv.owned {h1 : Heap} {t1 : Nat} {ch : List Addr} {a : Addr} {o : HO} (I : Inv X pins σ H s) (ha : a ∈ ch) (k : ∀ b u, b ∉ ch → s.heap.get? b = some u → h1.get? b = some u) (hf : ∀ b ∈ ch, FpOk X pins H b) (new : ObjOk X.prog X.w (upd H a o) h1 a o) :
    Inv X pins σ (upd H a o) { s with heap := h1, toks := t1 } := by
  have hn : H a = none := (hf a ha).1
  have nt : ∀ b u, H b = some u → b ∉ ch := fun b u e z => by
    rw [(hf b z).1] at e
    cases e
  refine I.step (g' := s.gens) (d' := s.drawn) (ch := ch) (fun b hb => ⟨(hf b hb).2.2.2.1, (hf b hb).2.1, (hf b hb).2.2.2.2.1, (hf b hb).2.2.2.2.2⟩) (fun b u _ _ hc e _ => k b u hc e) (fun b u _ _ hc e _ => ⟨u.slots, k b u hc e⟩)
    (fun b u hc e n => by rw [upd_ne (fun z => hc (by rw [z]; exact ha))]; exact n) (fun b u hc e => ⟨u, k b u hc e⟩) (fun b xs e => by rw [upd_ne (ne_of_none e hn)]; exact e) (fun b u w e => by rw [upd_ne (ne_of_none e hn)]; exact e) (fun b ps e => ⟨#[], by rw [upd_ne (ne_of_none e hn), e]; simp⟩) (fun m hm => ?_) (fun b u e => ?_) I.bare
  · obtain ⟨ob, es, ep, ho, q⟩ := hm
    exact ⟨ob, es, ep, k _ ob (fun z => (hf _ z).2.1 rfl) ho, q⟩
  · by_cases hb : b = a
    · subst hb
      rw [upd_same] at e
      cases e
      exact new
    · rw [upd_ne hb] at e
      refine (I.hok b u e).stay (fun c v hc q => k c v ?_ q) (fun c q => by rw [upd_ne (ne_of_none q hn)]; exact q) fun c xs q => by rw [upd_ne (ne_of_none q hn)]; exact q
      rcases hc with z | z
      · rw [z]; exact nt b u e
      · exact nt c _ z
end
/-! ### the keys' calls -/
theorem keysL_cons {f : D → G → Uk.R D} {x : D} {xs : List D} {g g2 : G} {ks : List D} (h : keysL f (x :: xs) g = .ok ks g2) : ∃ k g1 q, f x g = .ok k g1 ∧ ks = k :: q ∧ keysL f xs g1 = .ok q g2 := by
  have h : ((noX (f x g)).bind fun k g => (keysL f xs g).bind fun ks g => .ok (k :: ks) g) = .ok ks g2 := h
  cases hf : f x g with
  | bad => rw [hf] at h; cases h
  | exc _ _ => rw [hf] at h; cases h
  | ok k g1 =>
    rw [hf] at h
    have h : ((keysL f xs g1).bind fun ks g => .ok (k :: ks) g) = .ok ks g2 := h
    cases hk : keysL f xs g1 with
    | bad => rw [hk] at h; cases h
    | exc _ _ => rw [hk] at h; cases h
    | ok q g3 =>
      rw [hk] at h
      cases h
      exact ⟨k, g1, q, rfl, rfl, hk⟩
theorem keysL_exc {f : D → G → Uk.R D} {y : Exn} {g1 : G} : ∀ {xs : List D} {g : G}, keysL f xs g ≠ .exc y g1
  | [], g, h => by cases h
  | x :: xs, g, h => by
    have h : ((noX (f x g)).bind fun k g => (keysL f xs g).bind fun ks g => .ok (k :: ks) g) = .exc y g1 := h
    cases hf : f x g with
    | bad => rw [hf] at h; cases h
    | exc _ _ => rw [hf] at h; cases h
    | ok k g2 =>
      rw [hf] at h
      have h : ((keysL f xs g2).bind fun ks g => .ok (k :: ks) g) = .exc y g1 := h
      cases hk : keysL f xs g2 with
      | bad => rw [hk] at h; cases h
      | exc z g3 => exact keysL_exc (y := z) (g1 := g3) hk
      | ok q g3 => rw [hk] at h; cases h
end Uk
end
section
set_option Elab.async false
set_option linter.all false
set_option maxRecDepth 100000
set_option autoImplicit false
set_option maxHeartbeats 1000000
namespace Uk
open PySem PySem.Spec PyProof.Rows L2
section
variable {X : L2.Cx} {ck : Arguments → List Stmt → Scope → FDef → Bool} {c : Cx} {N : List String} {sc : Scope} {E : L2.St → XK} {r : List Addr} {H : Hp} {g : G} {Q : VK} {pins : List (Addr × Obj)} {s : Shared} {σ : L2.St} {e : Env}
theorem lam_scope {y : Str} {sc : Scope} (h : lamB y sc = true) : FnScope [y] [y] sc := by
  unfold lamB at h
  simp only [Bool.and_eq_true, Bool.not_eq_true', decide_eq_true_eq, List.all_eq_true, decide_eq_false_iff_not] at h
  obtain ⟨⟨⟨⟨h1, h2⟩, h3⟩, h4⟩, h5⟩ := h
  exact ⟨h1, h2, h3, List.nodup_cons.mpr ⟨List.not_mem_nil, List.nodup_nil⟩, rfl, fun x hx => by rw [List.mem_singleton.mp hx]; exact .inl h4, h5⟩
/-- the arguments of a lambda of one parameter -/
abbrev lamA (y : Str) (p : Pos) : Arguments := ⟨[], [⟨y, none, p⟩], none, [], [], none, []⟩
theorem srtArg_some {p : PySem.Expr} {q : PySem.Expr} {f y : Str} {sc2 : Scope} (h : srtArg p = some (q, f, y, sc2)) : ∃ p1 p2 p3 p4 p5 p6 p7 p8, p = .Call (.Name (sS "sorted") p1) [q] [⟨some (sS "key"), .Lambda (lamA y p2) (.Call (.Name f p3) [.Name y p4] [] p5) sc2 p6, p7⟩] p8 := by
  unfold srtArg at h
  split at h
  · split at h
    · rename_i e
      obtain ⟨e1, e2, e3⟩ := e
      subst e1 e2 e3
      cases h
      exact ⟨_, _, _, _, _, _, _, _, rfl⟩
    · cases h
  · cases h
theorem lam_bind {y : String} (h : y ∈ lamYs) {qual : Str} {p : Pos} {body : PySem.Expr} {sc : Scope} {pm cv ctv v : Value} : bindArgs (PySem.W.kla_fn "<lambda>" qual (lamA (sS y) p) body sc [] pm cv ctv) ⟨[v], []⟩ = pure [(sS y, v)] := by
  unfold lamYs at h
  simp only [List.mem_cons, List.not_mem_nil, or_false] at h
  rcases h with rfl | rfl | rfl <;> rfl
/-- the lambda called: what f says -/
theorem turn_lam (O : XOk X ck c N sc E) {f y : String} {sc2 : Scope} {p2 p3 p4 p5 p6 : Pos} (hyc : y ∈ lamYs) (hy : nmB (sS y) = true) (hl : lamB (sS y) sc2 = true) (hg : glB sc2 (sS f) = true) (hfn : (c.P.fn "" f).isSome = true)
    {fa ca P c0 : Addr} (I : Inv X pins σ H s) (R : Rel X.K X.mg X.w r g H) (La : LamAt X (lamA (sS y) p2) (.Call (.Name (sS f) p3) [.Name (sS y) p4] [] p5) sc2 p6 fa ca P H s.heap) (hmem : (c0, P, X.env.qual ++ "<lambda>") ∈ tbs X.K)
    {d k : D} {g1 : G} {x : V} {v : Value} (hx : VR X.K r H d x) (rx : RelV x v) (hc : c.call1 "" f [d] g = .ok k g1) {E' : Value → Shared → Prop} :
    wpAny (model X.prog X.w) X.A.in1.in1 (PySem.call (.ref fa) [v]) (fun u s1 => ∃ r1 H1 w, Inv X pins σ H1 s1 ∧ Ext r H r1 H1 ∧ Rel X.K X.mg X.w r1 g1 H1 ∧ VR X.K r1 H1 k w ∧ RelV w u ∧ ∃ ps : Array Value, H1 P = some (.tbl ps) ∧ TriplesOk ps.toList ∧ codeAmong p6 ps.toList = some (.ref ca)) E' s := by
  obtain ⟨n, hr, _, hc1⟩ := O.room
  rcases hc1 with z | ⟨m, hm, F⟩
  · rw [z] at hc; cases hc
  subst hm
  obtain ⟨⟨pm, ctv, hfo⟩, hfa, ps, hP, hps, hcode⟩ := La
  have S := lam_scope hl
  have hcd : s.heap.CodeRec (.ref ca) (X.env.qual ++ "<lambda>") := by
    obtain ⟨ps2, b1, b2, b3⟩ := R.tab _ hmem
    rw [hP] at b1
    cases b1
    obtain ⟨c3, e3, e4, _⟩ := b3 p6 _ hcode
    cases e3
    obtain ⟨⟨oc, vs, t, q1, q2, q3⟩, _, _⟩ := I.hok ca _ e4
    exact ⟨ca, oc, vs, t, rfl, q1, q2, q3⟩
  have hrm : Room m (X.A.in1.in1.deeper (envOfC (X.env.qual ++ "<lambda>") sc2 s.heap.objs.size fa (.ref ca))) := ⟨hr.hd, by
    have := hr.dp
    show X.A.depth + 1 + 3 * m + 5 < _
    omega, by
    have := hr.un
    show X.A.units + 1 + 1 + 3 + 16 * m + 200 < _
    omega⟩
  have O2 : XOk (cxOf (L2.CX X.prog X.w) X.prog X.w X.K X.mg X.base [sS y] (X.env.qual ++ "<lambda>") sc2 fa (.ref ca) X.A.in1.in1 X.stack s H E0) ck ⟨c.P, c.call1, fun _ _ _ _ => .bad, none⟩ [y] sc2 (fun _ => E0) := by
    have tk : Takes (cxOf (L2.CX X.prog X.w) X.prog X.w X.K X.mg X.base [sS y] (X.env.qual ++ "<lambda>") sc2 fa (.ref ca) X.A.in1.in1 X.stack s H E0) fun cls d _ H => E0 cls d H := takes_of rfl rfl rfl rfl
    exact ⟨rfl, S.nd, rfl, rfl, O.gf, .inl fun _ _ _ _ => rfl, O.ar1, fun _ _ _ _ z => absurd rfl z, ⟨m, hrm, F, .inl fun _ _ _ _ => rfl⟩, fun σ => passAt tk σ⟩
  have hvis : (ckN [y] 0 (sS y) && visB sc2 (sS y) && nmB (sS y)) = true := by
    have hloc : sc2.names.lookup (sS y) = some .local := by
      unfold lamB at hl
      simp only [Bool.and_eq_true, decide_eq_true_eq] at hl
      exact hl.1.2
    unfold ckN visB
    rw [hloc, hy]
    simp
  have B := pe_callD O2 (p := p3) (pos := p5) (ps := [.Name (sS y) p4]) (ma := evs ⟨c.P, c.call1, fun _ _ _ _ => .bad, none⟩ (.c (.loc 0) .n)) hg (fun p hp => by rw [List.mem_singleton.mp hp]; rfl) (fun z => by cases z) hfn (pa_c rfl (ok_loc O2 hvis) pa_n)
  have er : ER X.K r H [some d] (L2.start [sS y] [x]) := ⟨rfl, fun i d2 q => by
    cases i with
    | zero => cases q; exact ⟨x, rfl, hx⟩
    | succ i => cases q⟩
  have po : Post X.K X.mg X.w E0 r H (c.call1 "" f [d] g) (fun w H1 => ∃ r1, Ext r H r1 H1 ∧ Rel X.K X.mg X.w r1 g1 H1 ∧ VR X.K r1 H1 k w) := by
    rw [hc]
    exact fun r1 w H1 x1 R1 q => ⟨r1, x1, R1, q⟩
  have ht : (LE (cxOf (L2.CX X.prog X.w) X.prog X.w X.K X.mg X.base [sS y] (X.env.qual ++ "<lambda>") sc2 fa (.ref ca) X.A.in1.in1 X.stack s H E0) (fun _ => E0) fun e g => (evs (⟨c.P, c.call1, fun _ _ _ _ => .bad, none⟩ : Cx) (.c (.loc 0) .n) e g).bind fun ds g => c.call1 "" f ds g) (L2.start [sS y] [x]) H (fun w H1 => ∃ r1, Ext r H r1 H1 ∧ Rel X.K X.mg X.w r1 g1 H1 ∧ VR X.K r1 H1 k w) := ⟨r, g, [some d], R, er, po⟩
  have rc := run_lam (A := X.A.in1.in1) (CX := L2.CX X.prog X.w) (E := E0) (Q := fun w H1 => ∃ r1, Ext r H r1 H1 ∧ Rel X.K X.mg X.w r1 g1 H1 ∧ VR X.K r1 H1 k w) (v := x) hfo hcd S hr.hd (by
    have := hr.dp
    show X.A.depth < _
    omega) I.env0.in1.in1 (u := v) (lam_bind hyc) rx B (by
    exact ht)
  refine wpAny_call (codeAny_mono rc fun res s1 hq => ?_)
  cases res with
  | error e => exact False.elim (passL (X := X.nox) pins σ H s e s1 (I.wish _) hq)
  | ok fl =>
    cases fl with
    | ret u =>
      obtain ⟨w, H1, os, bare, un, hok, rw1, q⟩ := hq
      obtain ⟨w2, H2, I2, r2, e1, e2, r1, x1, R1, q1⟩ := I.after (Q := fun v2 H2 => v2 = w ∧ H2 = H1 ∧ ∃ r1, Ext r H r1 H1 ∧ Rel X.K X.mg X.w r1 g1 H1 ∧ VR X.K r1 H1 k w) ⟨w, H1, os, bare, un, hok, rw1, rfl, rfl, q⟩
      subst e1 e2
      obtain ⟨more, hP2⟩ := un.tbls P ps hP
      obtain ⟨ps2, b1, b2, _⟩ := R1.tab _ hmem
      rw [hP2] at b1
      cases b1
      exact ⟨r1, H2, w2, I2, x1, R1, q1, r2, _, hP2, b2, by rw [Array.toList_append]; exact among_more _ _ hps hcode⟩
    | next => exact False.elim hq
    | brk => exact False.elim hq
    | cont => exact False.elim hq
theorem vals_get {xs : List V} {us : List Value} (h : Vals xs us) {j : Nat} {u : Value} (e : us[j]? = some u) : ∃ x, xs[j]? = some x ∧ RelV x u := by
  have hl := h.length
  have hj : j < xs.length := by rw [hl]; exact (List.getElem?_eq_some_iff.mp e).1
  obtain ⟨w, e1, e2⟩ := h.get (i := j) (x := xs[j]) (List.getElem?_eq_getElem hj)
  rw [e] at e1
  cases e1
  exact ⟨_, List.getElem?_eq_getElem hj, e2⟩
theorem drop_at {α : Type} {xs : List α} {j : Nat} {x : α} (h : xs[j]? = some x) : xs.drop j = x :: xs.drop (j + 1) := by
  obtain ⟨hj, e⟩ := List.getElem?_eq_some_iff.mp h
  rw [List.drop_eq_getElem_cons hj, e]
theorem vals_snoc {xs : List V} {us : List Value} {x : V} {u : Value} (h : Vals xs us) (q : RelV x u) : Vals (xs ++ [x]) (us ++ [u]) := by
  induction h with
  | nil => exact .cons q .nil
  | cons a _ ih => exact .cons a ih
theorem sortK_ok {ks : List D} (h : sortK ks = true) : PySem.W.AllAlike (ks.map pdOf) ∧ PySem.W.Sortable (ks.map pdOf) := by
  unfold sortK at h
  rw [Bool.and_eq_true] at h
  obtain ⟨h1, h2⟩ := h
  rw [List.all_eq_true] at h1 h2
  refine ⟨fun d hd d' hd' => ?_, .inl fun d hd => ?_⟩
  · obtain ⟨x, hx, rfl⟩ := List.mem_map.mp hd
    obtain ⟨y, hy, rfl⟩ := List.mem_map.mp hd'
    exact alike_eq x y (List.all_eq_true.mp (h2 x hx) y hy)
  · obtain ⟨x, hx, rfl⟩ := List.mem_map.mp hd
    have := h1 x hx
    cases x with
    | tup ys =>
      cases ys with
      | nil => cases this
      | cons y ys => exact ⟨pdOf y, pdOfs ys, rfl⟩
    | _ => cases this
theorem le_key : PySem.W.dataLe false (fun p : D × D => pdOf p.1) = fun p q => leD p.1 q.1 := by
  funext a b
  have := congrFun (congrFun le_eq a.1) b.1
  exact this
theorem zip_each {K : PySem.W.Frag} {r : List Addr} {H : Hp} : ∀ {ks xs : List D} {vs : List Value}, ks.length = xs.length → PySem.W.EachIs (StV K r H) vs xs → PySem.W.EachIs (fun v (p : D × D) => StV K r H v p.2) vs (ks.zip xs)
  | [], [], _, _, .nil => .nil
  | k :: ks, x :: xs, _, h, .cons a b => .cons a (zip_each (by simpa using h) b)
theorem each_snd {K : PySem.W.Frag} {r : List Addr} {H : Hp} : ∀ {l : List (D × D)} {vs : List Value}, PySem.W.EachIs (fun v (p : D × D) => StV K r H v p.2) vs l → PySem.W.EachIs (StV K r H) vs (l.map (·.2))
  | _, _, .nil => .nil
  | _ :: _, _, .cons a b => .cons a (each_snd b)
/-- what stands between two keys' calls -/
def SrtI (X : L2.Cx) (σ : L2.St) (pins : List (Addr × Obj)) (f : D → G → Uk.R D) (xs : List D) (gE : G) (ks : List D) (r : List Addr) (H : Hp) (P ca kS : Addr) (p6 : Pos) (j : Nat) (s' : Shared) : Prop :=
  ∃ (r' : List Addr) (g' : G) (H' : Hp) (kA : Array Value) (e : Nat) (ks0 : List D) (ws0 : List V), Inv X pins σ H' s' ∧ s'.heap.get? kS = some (seqObj "list" kA e) ∧ FpOk X pins H' kS ∧ Ext r H r' H' ∧ Rel X.K X.mg X.w r' g' H' ∧
    (∃ ps : Array Value, H' P = some (.tbl ps) ∧ TriplesOk ps.toList ∧ codeAmong p6 ps.toList = some (.ref ca)) ∧ VRs X.K r' H' ks0 ws0 ∧ Vals ws0 kA.toList ∧ ks0.length = j ∧ ∃ ksr, keysL f (xs.drop j) g' = .ok ksr gE ∧ ks0 ++ ksr = ks
theorem sort_lam (O : XOk X ck c N sc E) {f y : String} {sc2 : Scope} {p2 p3 p4 p5 p6 : Pos} (hyc : y ∈ lamYs) (hy : nmB (sS y) = true) (hlm : lamB (sS y) sc2 = true) (hg : glB sc2 (sS f) = true) (hfn : (c.P.fn "" f).isSome = true)
    {fa ca P c0 : Addr} (I : Inv X pins σ H s) (R : Rel X.K X.mg X.w r g H) (La : LamAt X (lamA (sS y) p2) (.Call (.Name (sS f) p3) [.Name (sS y) p4] [] p5) sc2 p6 fa ca P H s.heap) (hfp : FpOk X pins H fa) (hmem : (c0, P, X.env.qual ++ "<lambda>") ∈ tbs X.K)
    {i : Nat} {l : Addr} {xs : List D} (hl : lsOf g i = some xs) (hv : VR X.K r H (.ref i) (.ref l)) {ks ks' : List D} {gE : G} (hk : keysL (fun x g => c.call1 "" f [x] g) xs g = .ok ks gE) (hr : allO (ks.map (rsv gE 6)) = some ks') (hs : sortK ks' = true)
    (hp : Post X.K X.mg X.w (E σ) r H (newL (((ks'.zip xs).mergeSort fun p q => leD p.1 q.1).map (·.2)) gE) Q) :
    wpAny (model X.prog X.w) X.A (PySem.call (.builtin "sorted") [.ref l] [(Str.ofString "key", .ref fa)]) (EP X pins σ Q) X.xe s := by
  obtain ⟨q, ws, ep, e1, h1, h2⟩ := R.lst hl hv
  cases e1
  obtain ⟨its, rv, pl, hz⟩ := I.list (SqL.of (K := X.K) h1)
  have hws : ws.length = xs.length := h2.length
  have hit : its.length = ws.length := rv.length.symm
  have hzi : its.length ≤ sizeLine := by rw [hit]; exact hz
  obtain ⟨⟨pm, ctv, hfo⟩, hfa, hT⟩ := La
  refine PySem.W.sorted_of_sort pl.isList hzi (PyProof.Rows.ksk_s1 _ _) (fun _ => PyProof.Rows.ksk_l1 _ _) fun E' => ?_
  rw [PyProof.Rows.ksk_t1]
  have ho := PySem.W.copyHeap_at s.heap its
  obtain ⟨e1, ho1⟩ : ∃ e1, ((PySem.W.copyHeap s.heap its).update (s.heap.objs.size + 1) (Obj.mapSeq fun _ => (#[] : Array Value))).get? (s.heap.objs.size + 1) = some (seqObj "list" #[] e1) := ⟨_, PyProof.Rows.get?_update_seq ho fun _ => #[]⟩
  have hlt : s.heap.objs.size + 1 < (PySem.W.copyHeap s.heap its).objs.size := Heap.lt_size ho
  have hkS : (((PySem.W.copyHeap s.heap its).update (s.heap.objs.size + 1) (Obj.mapSeq fun _ => (#[] : Array Value))).push (seqObj "tuple" its.toArray 0)).objs.size = (PySem.W.copyHeap s.heap its).objs.size + 1 := by rw [PyProof.Rows.size_push', Heap.size_update]
  have fpa : FpOk X pins H (s.heap.objs.size + 1) := I.fpOk (Nat.le_succ _) (I.hok.fresh (Nat.le_succ _))
  have hle : s.heap.objs.size ≤ (PySem.W.copyHeap s.heap its).objs.size + 1 := by omega
  have fpk : FpOk X pins H ((PySem.W.copyHeap s.heap its).objs.size + 1) := I.fpOk hle (I.hok.fresh hle)
  have hka : (PySem.W.copyHeap s.heap its).objs.size + 1 ≠ s.heap.objs.size + 1 := by omega
  have hfs : fa < s.heap.objs.size := Heap.lt_size hfo
  unfold PyProof.Rows.ksk_tree
  refine wpAny_bind (PyProof.Rows.listItems_at ho rfl (wpAny_bind (PyProof.Rows.listUpdate_at ho rfl (wpAny_bind (PyProof.Rows.seqEpoch_at ho1 rfl (wpAny_bind (wpAny_newTuple (wpAny_bind (wpAny_newList (wpAny_holding ?_) (Nat.zero_le _))) (by show its.length ≤ _; exact hzi))))) (by rw [List.size_toArray]; exact hzi) (Nat.zero_le _))))
  rw [hkS]
  generalize hkk : (PySem.W.copyHeap s.heap its).objs.size + 1 = kS at *
  have old : ∀ b o, b ≠ s.heap.objs.size + 1 → s.heap.get? b = some o → (PySem.W.sortingHeap (PySem.W.copyHeap s.heap its) (s.heap.objs.size + 1) its).get? b = some o := fun b o hb e => PySem.W.sortingHeap_old hb (PySem.W.copyHeap_old e)
  have atA : (PySem.W.sortingHeap (PySem.W.copyHeap s.heap its) (s.heap.objs.size + 1) its).get? (s.heap.objs.size + 1) = some (seqObj "list" #[] e1) := Heap.get?_push_of_some _ (Heap.get?_push_of_some _ ho1)
  have atK : (PySem.W.sortingHeap (PySem.W.copyHeap s.heap its) (s.heap.objs.size + 1) its).get? kS = some (seqObj "list" #[] 0) := by
    rw [← hkS]
    exact Heap.get?_push_size _ rfl
  have I0 : Inv X pins σ H { s with heap := PySem.W.sortingHeap (PySem.W.copyHeap s.heap its) (s.heap.objs.size + 1) its } := I.turned (t' := s.toks) old fpa.1 fpa.2.1 fpa.2.2.2.1 fpa.2.2.2.2.1 fpa.2.2.2.2.2
  have I1 := Uk.Inv.pinned I0 hfp (old _ _ (Nat.ne_of_lt (Nat.lt_succ_of_lt hfs)) hfo) (fun v z => by cases z)
  have fpa1 : FpOk X ((fa, PySem.W.kla_obj "<lambda>" (X.env.qual ++ "<lambda>") (lamA (sS y) p2) (.Call (.Name (sS f) p3) [.Name (sS y) p4] [] p5) sc2 [] pm ca ctv) :: pins) H (s.heap.objs.size + 1) := ⟨fpa.1, fpa.2.1, fpa.2.2.1, fpa.2.2.2.1, fpa.2.2.2.2.1, fun p hp => by
    rcases List.mem_append.mp hp with z | z
    · exact fpa.2.2.2.2.2 p (List.mem_append_left _ z)
    · rcases List.mem_cons.mp z with z | z
      · rw [z]; exact Nat.ne_of_lt (Nat.lt_succ_of_lt hfs)
      · exact fpa.2.2.2.2.2 p (List.mem_append_right _ z)⟩
  have I2 := Uk.Inv.pinned I1 fpa1 atA (fun v z => by cases z)
  have fpk2 : ∀ H', H' kS = none → FpOk X ((s.heap.objs.size + 1, seqObj "list" #[] e1) :: (fa, PySem.W.kla_obj "<lambda>" (X.env.qual ++ "<lambda>") (lamA (sS y) p2) (.Call (.Name (sS f) p3) [.Name (sS y) p4] [] p5) sc2 [] pm ca ctv) :: pins) H' kS := fun H' hn => ⟨hn, fpk.2.1, fpk.2.2.1, fpk.2.2.2.1, fpk.2.2.2.2.1, fun p hp => by
    rcases List.mem_append.mp hp with z | z
    · exact fpk.2.2.2.2.2 p (List.mem_append_left _ z)
    · rcases List.mem_cons.mp z with z | z
      · rw [z]; exact hka.symm
      · rcases List.mem_cons.mp z with z | z
        · rw [z]; exact Nat.ne_of_lt (Nat.lt_of_lt_of_le hfs hle)
        · exact fpk.2.2.2.2.2 p (List.mem_append_right _ z)⟩
  unfold PyProof.Rows.ksk_rest
  refine wpAny_bind (wpAny_rule ?_)
  first
    | rw [List.forIn_toArray]
    | (rw [← Array.forIn_toList]; simp only [List.toList_toArray])
  refine wpAny_bind (PyProof.Rows.ksk_fold (SrtI X σ ((s.heap.objs.size + 1, seqObj "list" #[] e1) :: (fa, PySem.W.kla_obj "<lambda>" (X.env.qual ++ "<lambda>") (lamA (sS y) p2) (.Call (.Name (sS f) p3) [.Name (sS y) p4] [] p5) sc2 [] pm ca ctv) :: pins) (fun x g => c.call1 "" f [x] g) xs gE ks r H P ca kS p6) its 0 _
    ⟨r, g, H, #[], 0, [], [], I2, atK, fpk2 H fpk.1, .refl _ _, R, hT, VRs.nil_iff.mpr rfl, .nil, rfl, ks, hk, rfl⟩ ?step ?done)
  case step =>
    rintro j v s' hj ⟨r', g', H', kA, e, ks0, ws0, I', nk, fk, x', R', hT', hks, hvals, hlen, ksr, hrest, hall⟩
    rw [Nat.zero_add] at hlen ⊢
    subst hlen
    obtain ⟨w, ew, rw1⟩ := vals_get rv hj
    have hjx : ks0.length < xs.length := by
      rw [← hws]
      exact (List.getElem?_eq_some_iff.mp ew).1
    obtain ⟨w2, ew2, hd⟩ := h2.get (List.getElem?_eq_getElem hjx)
    rw [ew] at ew2
    cases ew2
    rw [Nat.zero_add, drop_at (List.getElem?_eq_getElem hjx)] at hrest
    obtain ⟨k, gk, kr, hc1, rfl, hrest2⟩ := keysL_cons hrest
    have hfo' : s'.heap.get? fa = some (PySem.W.kla_obj "<lambda>" (X.env.qual ++ "<lambda>") (lamA (sS y) p2) (.Call (.Name (sS f) p3) [.Name (sS y) p4] [] p5) sc2 [] pm ca ctv) ∧ H' fa = none := by
      have z := I'.pin (fa, _) (List.mem_append_right _ (List.mem_cons_of_mem _ (List.mem_cons_self ..)))
      exact ⟨z.1, z.2.1⟩
    have IK := Uk.Inv.pinned I' fk nk (fun v z => by cases z)
    have hkz : kA.size ≤ sizeLine := by
      have a1 : ws0.length = kA.size := by rw [← Array.length_toList]; exact hvals.length
      have a2 := hks.length
      omega
    refine wpAny_bind (wpAny_attempt (wpAny_mono (turn_lam O hyc hy hlm hg hfn IK R' ⟨⟨pm, ctv, hfo'.1⟩, hfo'.2, hT'⟩ hmem (VR.mono x' _ _ hd) rw1 hc1 (E' := fun _ _ => False)) (fun u s2 hu => ?_) fun _ _ hF => hF.elim))
    obtain ⟨r2, H2, wk, J, x2, R2, qk, rk, hT2⟩ := hu
    have pk := J.pin (kS, seqObj "list" kA e) (List.mem_append_right _ (List.mem_cons_self ..))
    have fk2 := fpk2 H2 pk.2.1
    obtain ⟨e2, nk2⟩ : ∃ e2, (s2.heap.update kS (Obj.mapSeq (·.push u))).get? kS = some (seqObj "list" (kA.push u) e2) := ⟨_, PyProof.Rows.get?_update_seq pk.1 (·.push u)⟩
    have sb := Heap.SameBut.update s2.heap kS (Obj.mapSeq (·.push u))
    try dsimp only
    refine wpAny_bind (PyProof.Rows.listUpdate_at pk.1 rfl (wpAny_pure ⟨rfl, ?_⟩) hkz (by rw [Array.size_push]; omega))
    refine ⟨r2, gk, H2, kA.push u, e2, ks0 ++ [k], ws0 ++ [wk], ?_, nk2, fk2, x'.trans x2, R2, hT2, (VRs.mono x2 _ _ hks).append (.cons qk (VRs.nil_iff.mpr rfl)), by rw [Array.toList_push]; exact vals_snoc hvals rk, by simp, kr, ?_, by rw [List.append_assoc]; exact hall⟩
    · exact (Uk.Inv.unpinned J).turned (t' := s2.toks) (fun b ob hb eb => (sb.2 b hb).trans eb) fk2.1 fk2.2.1 fk2.2.2.2.1 fk2.2.2.2.2.1 fk2.2.2.2.2.2
    · exact hrest2
  case done =>
    rintro s' ⟨r', g', H', kA, e, ks0, ws0, I', nk, fk, x', R', hT', hks, hvals, hlen, ksr, hrest, hall⟩
    rw [Nat.zero_add, hit, hws] at hlen hrest
    rw [List.drop_length] at hrest
    cases hrest
    rw [List.append_nil] at hall
    subst hall
    have nA := I'.pin (s.heap.objs.size + 1, seqObj "list" #[] e1) (List.mem_append_right _ (List.mem_cons_self ..))
    obtain ⟨b1, b2⟩ := sortK_ok hs
    have ek : PySem.W.EachIs (fun v k => ∃ as, Reads s'.heap v k as) kA.toList (ks'.map pdOf) := each_key I' R' hr hks hvals
    have lks : ks'.length = ks0.length := by rw [allO_length hr, List.length_map]
    have hksz : kA.size = its.length := by
      have a1 : ws0.length = kA.size := by rw [← Array.length_toList]; exact hvals.length
      have a2 := hks.length
      omega
    have hu : ∀ d, d ∈ ks'.map pdOf → X.A.in1.in1.units + d.depth < cLine := fun d hd => by
      obtain ⟨k', hk', rfl⟩ := List.mem_map.mp hd
      obtain ⟨j, hj, ej⟩ := List.mem_iff_getElem.mp hk'
      have hdep : ∀ {l : List D} {l' : List D}, allO (l.map (rsv gE 6)) = some l' → ∀ d' ∈ l', (pdOf d').depth ≤ 6 := by
        intro l
        induction l with
        | nil => intro l' h d' hd'; cases h; cases hd'
        | cons a l ih =>
          intro l' h d' hd'
          obtain ⟨x, q, q1, rfl, q2⟩ := allO_cons h
          rcases List.mem_cons.mp hd' with z | z
          · rw [z]; exact rsv_depth 6 a x q1
          · exact ih q2 d' z
      have := hdep hr k' hk'
      have := O.units
      show X.A.units + 1 + 1 + _ < _
      omega
    have nk' : (PySem.W.hideAll s'.heap [kS]).get? kS = none := PySem.W.hideAll_none _ (List.mem_cons_self ..)
    have kp : PySem.W.KeepsBut (s.heap.objs.size + 1) (PySem.W.hideAll s'.heap [kS]) s'.heap := fun b o _ eb => PySem.W.of_hideAll _ eb
    try dsimp only
    refine wpAny_bind (PyProof.Rows.listItems_at nk rfl (PySem.W.keyH_end (κ := PySem.W.dataKind s'.heap (ks'.map pdOf)) (h₁ := PySem.W.hideAll s'.heap [kS]) kp nk' nk nA.1 hka (PySem.W.SortsAt.data (s := s') ek b1 b2 hu) hksz hzi fun h3 tk3 c3 k3 n3 => ⟨rfl, ?_⟩))
    have ev : PySem.W.EachIs (StV X.K r' H') its xs := each_stv (VRs.mono x' _ _ h2) rv
    have em : (ks'.zip xs).map (fun p : D × D => pdOf p.1) = ks'.map pdOf := by
      have : (ks'.zip xs).map Prod.fst = ks' := List.map_fst_zip (by omega)
      calc (ks'.zip xs).map (fun p : D × D => pdOf p.1) = ((ks'.zip xs).map Prod.fst).map pdOf := by rw [List.map_map]; rfl
        _ = _ := by rw [this]
    have eo := PySem.W.keyedOut_each (rev := false) (bs := ks'.zip xs) (fun p : D × D => pdOf p.1) (vs := its) (out := PySem.W.sortVals (PySem.W.dataKind s'.heap (ks'.map pdOf)) false kA.toList its) (by
      rw [em]
      exact ⟨s'.heap, kA.toList, b1, rfl, ek⟩) (zip_each (by omega) ev)
    rw [le_key] at eo
    obtain ⟨ys, hy2, hv2⟩ := stv_each (each_snd eo)
    have hyl : ys.length = xs.length := by
      rw [hy2.length, List.length_map, List.length_mergeSort, List.length_zip]
      omega
    unfold newL at hp
    split at hp
    · have fa3 : FpOk X pins H' (s.heap.objs.size + 1) := ⟨nA.2.1, fpa.2⟩
      have fk3 : FpOk X pins H' kS := ⟨fk.1, fpk.2⟩
      have I3 := Uk.Inv.owned (t1 := tk3) (h1 := h3) (ch := [s.heap.objs.size + 1, kS]) (a := s.heap.objs.size + 1) (o := .lst ys) (Uk.Inv.unpinned (Uk.Inv.unpinned I')) (List.mem_cons_self ..) (fun b u hb eb => k3 b u (fun z => hb (by simp [z])) (PySem.W.hideAll_get _ eb fun z => hb (by simp at z; simp [z])))
        (fun b hb => by
          simp only [List.mem_cons, List.not_mem_nil, or_false] at hb
          rcases hb with rfl | rfl
          · exact fa3
          · exact fk3) ⟨by omega, _, c3, hv2, n3⟩
      exact ⟨.ref _, _, I3, rfl, Post.newLst (hp.ext x') R' hy2 fa3.1⟩
    · exact hp.elim
theorem keysL_ne {f : D → G → Uk.R D} (hb : ∀ x g, f x g = .bad) {x : D} {xs : List D} {g : G} : keysL f (x :: xs) g = .bad := by
  show ((noX (f x g)).bind fun k g => (keysL f xs g).bind fun ks g => .ok (k :: ks) g) = .bad
  rw [hb]
  rfl
/-- sorted(a, key=lambda y: f(y)) -/
theorem pe_srt {f y : String} {sc2 : Scope} {a : PySem.Expr} {p1 p2 p3 p4 p5 p6 p7 pos : Pos} {m : Env → G → Uk.R D} (O : XOk X ck c N sc E) (hs : glB sc (sS "sorted") = true) (hyc : y ∈ lamYs) (hy : nmB (sS y) = true) (hlm : lamB (sS y) sc2 = true) (hg : glB sc2 (sS f) = true) (hfn : (c.P.fn "" f).isSome = true)
    (hpl : plainP a = true) (ha : PE X a (LE X E m)) :
    PE X (.Call (.Name (sS "sorted") p1) [a] [⟨some (sS "key"), .Lambda (lamA (sS y) p2) (.Call (.Name (sS f) p3) [.Name (sS y) p4] [] p5) sc2 p6, p7⟩] pos) (LE X E fun e g => (m e g).bind fun x g => srtM (fun x g => c.call1 "" f [x] g) x g) := by
  obtain ⟨gl, nd, nn⟩ := pe_callD.gl_of O hs
  have hm2 : X.mg "sorted" = none := O.gf.blt "sorted" (by simp [bnames])
  refine ⟨fun pins s σ H Q I ⟨r, g, e, R, er, hp⟩ => ?_⟩
  have na := star_plain (ps := []) (env := X.env) hpl
  refine wpAny_Call_Name_kw (ld_blt I gl hm2 PyProof.Rows.boot_sorted ?_)
  have hb : backTo pos (starEach [a] X.env) = (false, eval a X.env) :: backTo pos (starEach [] X.env) := by
    rw [na]
    rfl
  refine PyProof.Rows.callWith_kw ?_ hb (by rw [hb]; rfl)
  rw [hb]
  refine Calls.spliced_cons (LE.seq ha I R er hp fun u s1 r1 g1 H1 d v I1 x1 R1 er1 hv ru hp => Calls.spliced_nil ?_)
  show wpAny _ _ (evalAll [do let v ← eval (.Lambda (lamA (sS y) p2) (.Call (.Name (sS f) p3) [.Name (sS y) p4] [] p5) sc2 p6) X.env; standAt pos; pure v]) _ _ s1
  unfold srtM at hp
  cases d with
  | ref i =>
    dsimp only at hp
    cases hl : lsOf g1 i with
    | none => rw [hl] at hp; exact hp.elim
    | some xs =>
      rw [hl] at hp
      have hp : Post X.K X.mg X.w (E σ) r1 H1 (if xs.isEmpty then .bad else (keysL (fun x g => c.call1 "" f [x] g) xs g1).bind fun ks g => orElse (allO (ks.map (rsv g 6))) fun ks => if sortK ks then newL (((ks.zip xs).mergeSort fun p q => leD p.1 q.1).map (·.2)) g else .bad) Q := hp
      cases xs with
      | nil => exact hp.elim
      | cons x0 xs =>
        have hp : Post X.K X.mg X.w (E σ) r1 H1 ((keysL (fun x g => c.call1 "" f [x] g) (x0 :: xs) g1).bind fun ks g => orElse (allO (ks.map (rsv g 6))) fun ks => if sortK ks then newL (((ks.zip (x0 :: xs)).mergeSort fun p q => leD p.1 q.1).map (·.2)) g else .bad) Q := hp
        cases hk : keysL (fun x g => c.call1 "" f [x] g) (x0 :: xs) g1 with
        | bad => rw [hk] at hp; exact hp.elim
        | exc y0 g2 => exact absurd hk keysL_exc
        | ok ks gE =>
          rw [hk] at hp
          have hp : Post X.K X.mg X.w (E σ) r1 H1 (orElse (allO (ks.map (rsv gE 6))) fun ks => if sortK ks then newL (((ks.zip (x0 :: xs)).mergeSort fun p q => leD p.1 q.1).map (·.2)) gE else .bad) Q := hp
          cases hr : allO (ks.map (rsv gE 6)) with
          | none => rw [hr] at hp; exact hp.elim
          | some ks' =>
            rw [hr] at hp
            have hp : Post X.K X.mg X.w (E σ) r1 H1 (if sortK ks' then newL (((ks'.zip (x0 :: xs)).mergeSort fun p q => leD p.1 q.1).map (·.2)) gE else .bad) Q := hp
            cases hsk : sortK ks' with
            | false => rw [hsk] at hp; exact hp.elim
            | true =>
              rw [hsk] at hp
              have hp : Post X.K X.mg X.w (E σ) r1 H1 (newL (((ks'.zip (x0 :: xs)).mergeSort fun p q => leD p.1 q.1).map (·.2)) gE) Q := hp
              rcases O.lam with hbad | L
              · rw [keysL_ne (fun x g => hbad _ _ _ _)] at hk
                cases hk
              · obtain ⟨q, _, rfl⟩ := id hv.ref_inv
                obtain rfl : u = Value.ref q := ru
                refine wpAny_evalAll_cons (wpAny_bind (lam_made I1 R1 L rfl (lam_scope hlm).nofree fun fa ca P c0 H2 s2 I2 x2 R2 La hf hmem => wpAny_bind (wpAny_standAt (wpAny_pure (wpAny_evalAll_nil ?_)))))
                exact sort_lam O hyc hy hlm hg hfn I2 R2 La hf hmem hl (VR.mono x2 _ _ hv) hk hr hsk (hp.ext x2)
  | _ => exact hp.elim
end
end Uk
end
section
set_option Elab.async false
set_option linter.all false
set_option maxRecDepth 100000
set_option autoImplicit false
set_option maxHeartbeats 1000000
namespace Uk
open PySem PySem.Spec PyProof.Rows L2
def isEnum (it : Uk.It) : Bool := match it with
  | .enum _ => true
  | _ => false
theorem fold_plain {p : PySem.Expr} {env : PySem.Env} (h : plainP p = true) : ∀ x, foldedSetIterable p env x = pure x := by
  intro x
  cases p <;> first | rfl | exact absurd h Bool.false_ne_true
theorem ckI_plain {P : Pg} {N : List String} {sc : Scope} {it : Uk.It} {p : PySem.Expr} (h : ckI P N sc it p = true) : plainP p = true := by
  cases it with
  | seq e => unfold ckI at h; exact ck_plain h
  | _ =>
    cases p <;> first
      | rfl
      | (exfalso; unfold ckI at h; exact Bool.false_ne_true h)
theorem tg_tuple {N : List String} {scope : Scope} {it : Uk.It} {tg : Tg} {p : PySem.Expr} (h : tgFor it tg = true) (h2 : ckT N scope tg p = true) : isEnum it = true → ∃ elts kk tpos, p = .Tuple elts kk tpos := by
  intro he
  cases it with
  | enum e =>
    cases tg with
    | one i => exact absurd h Bool.false_ne_true
    | many l =>
      cases p with
      | Tuple a b d => exact ⟨a, b, d, rfl⟩
      | _ => exact absurd h2 Bool.false_ne_true
  | _ => exact absurd he Bool.false_ne_true
theorem evs1 (c : Cx) (e : Uk.E) (δ : Env) (g : G) : evs c (.c e .n) δ g = (ev c e δ g).bind fun x g => .ok [x] g := by
  show ((ev c e δ g).bind fun x g => (Uk.R.ok ([] : List D) g).bind fun xs g => .ok (x :: xs) g) = _
  cases ev c e δ g <;> rfl
theorem evs3 (c : Cx) (a b d : Uk.E) (δ : Env) (g : G) : evs c (.c a (.c b (.c d .n))) δ g = (ev c a δ g).bind fun x g => (ev c b δ g).bind fun y g => (ev c d δ g).bind fun z g => .ok [x, y, z] g := by
  show ((ev c a δ g).bind fun x g => ((ev c b δ g).bind fun y g => ((ev c d δ g).bind fun z g => (Uk.R.ok ([] : List D) g).bind fun xs g => .ok (z :: xs) g).bind fun xs g => .ok (y :: xs) g).bind fun xs g => .ok (x :: xs) g) = _
  cases ev c a δ g with
  | ok x g1 =>
    show ((ev c b δ g1).bind fun y g => ((ev c d δ g).bind fun z g => (Uk.R.ok ([] : List D) g).bind fun xs g => .ok (z :: xs) g).bind fun xs g => .ok (y :: xs) g).bind _ = ((ev c b δ g1).bind fun y g => (ev c d δ g).bind fun z g => .ok [x, y, z] g)
    cases ev c b δ g1 with
    | ok y g2 =>
      show ((((ev c d δ g2).bind fun z g => (Uk.R.ok ([] : List D) g).bind fun xs g => .ok (z :: xs) g).bind fun xs g => .ok (y :: xs) g).bind _) = ((ev c d δ g2).bind fun z g => .ok [x, y, z] g)
      cases ev c d δ g2 <;> rfl
    | exc _ _ => rfl
    | bad => rfl
  | exc _ _ => rfl
  | bad => rfl
/-! ## Calls, read back -/
theorem ck_call {P : Pg} {N : List String} {sc : Scope} {f : String} {es : Uk.Es} {p : PySem.Expr} (h : ckE P N sc (.call f es) p = true) : ∃ p1 ps pos, p = .Call (.Name (sS f) p1) ps [] pos ∧ glB sc (sS f) = true ∧ (P.fn "" f).isSome = true ∧ ckEs P N sc es ps = true := by
  unfold ckE at h
  split at h
  all_goals first
    | (rename_i hh; cases hh; done)
    | exact absurd h Bool.false_ne_true
    | (rename_i hh
       cases hh
       simp only [Bool.and_eq_true] at h
       obtain ⟨⟨⟨h1, h2⟩, h3⟩, h4⟩ := h
       have h1 := of_decide_eq_true h1
       subst h1
       exact ⟨_, _, _, rfl, h2, h3, h4⟩)
theorem ck_mk {P : Pg} {N : List String} {sc : Scope} {f : String} {es : Uk.Es} {p : PySem.Expr} (h : ckE P N sc (.mk f es) p = true) : ∃ p1 ps pos, p = .Call (.Name (sS f) p1) ps [] pos ∧ glB sc (sS f) = true ∧ P.cls f = true ∧ P.prop f "__init__" = false ∧ ckEs P N sc es ps = true := by
  unfold ckE at h
  split at h
  all_goals first
    | (rename_i hh; cases hh; done)
    | exact absurd h Bool.false_ne_true
    | (rename_i hh
       cases hh
       simp only [Bool.and_eq_true] at h
       obtain ⟨⟨⟨⟨h1, h2⟩, h3⟩, h4⟩, h5⟩ := h
       have h1 := of_decide_eq_true h1
       subst h1
       exact ⟨_, _, _, rfl, h2, h3, by simpa using h4, h5⟩)
theorem ck_met {P : Pg} {N : List String} {sc : Scope} {a : Uk.E} {f : String} {es : Uk.Es} {p : PySem.Expr} (h : ckE P N sc (.met a f es) p = true) : ∃ q p1 ps pos, p = .Call (.Attribute q (sS f) p1) ps [] pos ∧ noSup q = true ∧ lineB p1 pos = true ∧ ps.length < 30 ∧ ckE P N sc a q = true ∧ ckEs P N sc es ps = true := by
  unfold ckE at h
  split at h
  all_goals first
    | (rename_i hh; cases hh; done)
    | exact absurd h Bool.false_ne_true
    | (rename_i hh
       cases hh
       simp only [Bool.and_eq_true] at h
       obtain ⟨⟨⟨⟨⟨h1, h2⟩, h3⟩, h4⟩, h5⟩, h6⟩ := h
       have h1 := of_decide_eq_true h1
       subst h1
       exact ⟨_, _, _, _, rfl, h2, h3, of_decide_eq_true h4, h5, h6⟩)
theorem ck_bi {P : Pg} {N : List String} {sc : Scope} {f : Bi} {es : Uk.Es} {p : PySem.Expr} (h : ckE P N sc (.bi f es) p = true) : ∃ p1 ps pos, p = .Call (.Name (sS f.name) p1) ps [] pos ∧ glB sc (sS f.name) = true ∧ ps.isEmpty = false ∧ ckEs P N sc es ps = true := by
  unfold ckE at h
  split at h
  all_goals first
    | (rename_i hh; cases hh; done)
    | exact absurd h Bool.false_ne_true
    | (rename_i hh
       cases hh
       simp only [Bool.and_eq_true] at h
       obtain ⟨⟨⟨h1, h2⟩, h3⟩, h4⟩ := h
       have h1 := of_decide_eq_true h1
       subst h1
       exact ⟨_, _, _, rfl, h2, by simpa using h3, h4⟩)
theorem ck_isi {P : Pg} {N : List String} {sc : Scope} {a : Uk.E} {t : String} {p : PySem.Expr} (h : ckE P N sc (.isi a t) p = true) : ∃ p1 q p2 pos, p = .Call (.Name (sS "isinstance") p1) [q, .Name (sS t) p2] [] pos ∧ glB sc (sS "isinstance") = true ∧ glB sc (sS t) = true ∧ (P.cls t = true ∨ t ∈ ["int", "bool", "str", "tuple", "list", "dict"]) ∧ ckE P N sc a q = true := by
  unfold ckE at h
  split at h
  all_goals first
    | (rename_i hh; cases hh; done)
    | exact absurd h Bool.false_ne_true
    | (rename_i hh
       cases hh
       simp only [Bool.and_eq_true, Bool.or_eq_true, List.contains_iff_mem] at h
       obtain ⟨⟨⟨⟨⟨h1, h2⟩, h3⟩, h4⟩, h5⟩, h6⟩ := h
       have h1 := of_decide_eq_true h1
       have h3 := of_decide_eq_true h3
       subst h1 h3
       exact ⟨_, _, _, _, rfl, h2, h4, h5, h6⟩)
theorem ck_comp {P : Pg} {N : List String} {sc : Scope} {vs : List Nat} {elt : Uk.E} {tg : Tg} {it : Uk.It} {cond : Uk.E} {p : PySem.Expr} (h : ckE P N sc (.comp vs elt tg it cond) p = true) : ∃ q pt pi ifs scope pos, p = .ListComp q [⟨pt, pi, ifs, 0⟩] scope pos ∧ (ownOf N vs).map (·.2) = vs ∧ blkC (N.map sS) sc scope (ownOf N vs) = true ∧ ckT N scope tg pt = true ∧ (∀ i ∈ tgIx tg, i ∈ vs) ∧
    tgFor it tg = true ∧ ckI P N sc it pi = true ∧ ((ifs = [] ∧ cond = .cst (.bl true)) ∨ ∃ q, ifs = [q] ∧ ckE P N (relS scope sc) cond q = true) ∧ ckE P N (relS scope sc) elt q = true := by
  unfold ckE at h
  split at h
  all_goals first
    | (rename_i hh; cases hh; done)
    | exact absurd h Bool.false_ne_true
    | (rename_i hh
       cases hh
       split at h
       · simp only [Bool.and_eq_true, List.all_eq_true, List.contains_iff_mem] at h
         obtain ⟨⟨⟨⟨⟨⟨⟨⟨h1, h2⟩, h3⟩, h4⟩, h5⟩, h6⟩, h7⟩, h8⟩, h9⟩ := h
         have h1 := of_decide_eq_true h1
         subst h1
         refine ⟨_, _, _, _, _, _, rfl, of_decide_eq_true h2, h3, h4, h5, h6, h7, ?_, h9⟩
         split at h8
         · split at h8
           · exact .inl ⟨rfl, rfl⟩
           · cases h8
         · rw [Bool.and_eq_true] at h8
           exact .inr ⟨_, rfl, h8.1⟩
         · cases h8
       · cases h)
theorem setArg_some {p : PySem.Expr} {x y : Str} {q : PySem.Expr} (h : setArg p = some (x, y, q)) : ∃ p1 p2 q0 pos, p = .Call (.Name x p1) [.Call (.Name y p2) [q] [] q0] [] pos := by
  unfold setArg at h
  split at h
  · cases h
    exact ⟨_, _, _, _, rfl⟩
  · cases h
theorem dcArg_some {p kx vx pt pi : PySem.Expr} {scope : Scope} (h : dcArg p = some (kx, vx, pt, pi, scope)) : ∃ pos, p = .DictComp kx vx [⟨pt, pi, [], 0⟩] scope pos := by
  unfold dcArg at h
  split at h
  · split at h
    · rename_i e
      subst e
      cases h
      exact ⟨_, rfl⟩
    · cases h
  · cases h
theorem ck_sset {P : Pg} {N : List String} {sc : Scope} {a : Uk.E} {p : PySem.Expr} (h : ckE P N sc (.sset a) p = true) : ∃ p1 p2 q0 pos q, p = .Call (.Name (sS "sorted") p1) [.Call (.Name (sS "set") p2) [q] [] q0] [] pos ∧ glB sc (sS "sorted") = true ∧ glB sc (sS "set") = true ∧ ckE P N sc a q = true := by
  unfold ckE at h
  cases hs : setArg p with
  | none => rw [hs] at h; cases h
  | some t =>
    obtain ⟨x, y, q⟩ := t
    rw [hs] at h
    simp only [Bool.and_eq_true] at h
    obtain ⟨⟨⟨⟨h1, h2⟩, h3⟩, h4⟩, h5⟩ := h
    have h1 := of_decide_eq_true h1
    have h3 := of_decide_eq_true h3
    subst h1 h3
    obtain ⟨p1, p2, q0, pos, e⟩ := setArg_some hs
    exact ⟨p1, p2, q0, pos, q, e, h2, h4, h5⟩
theorem ck_lset {P : Pg} {N : List String} {sc : Scope} {a : Uk.E} {p : PySem.Expr} (h : ckE P N sc (.lset a) p = true) : ∃ p1 p2 q0 pos q, p = .Call (.Name (sS "len") p1) [.Call (.Name (sS "set") p2) [q] [] q0] [] pos ∧ glB sc (sS "len") = true ∧ glB sc (sS "set") = true ∧ ckE P N sc a q = true := by
  unfold ckE at h
  cases hs : setArg p with
  | none => rw [hs] at h; cases h
  | some t =>
    obtain ⟨x, y, q⟩ := t
    rw [hs] at h
    simp only [Bool.and_eq_true] at h
    obtain ⟨⟨⟨⟨h1, h2⟩, h3⟩, h4⟩, h5⟩ := h
    have h1 := of_decide_eq_true h1
    have h3 := of_decide_eq_true h3
    subst h1 h3
    obtain ⟨p1, p2, q0, pos, e⟩ := setArg_some hs
    exact ⟨p1, p2, q0, pos, q, e, h2, h4, h5⟩
theorem oneArg_some {p q : PySem.Expr} {x : Str} (h : oneArg p = some (x, q)) : ∃ p1 pos, p = .Call (.Name x p1) [q] [] pos := by
  unfold oneArg at h
  split at h
  · cases h
    exact ⟨_, _, rfl⟩
  · cases h
theorem revArg_some {p q : PySem.Expr} (h : revArg p = some q) : ∃ k p1 p2 p3 pos, p = .Subscript q (.Slice none none (some (.UnaryOp .USub (.Constant (.int 1) k p1) p2)) p3) pos := by
  unfold revArg at h
  split at h
  · split at h
    · rename_i e
      subst e
      cases h
      exact ⟨_, _, _, _, _, rfl⟩
    · cases h
  · cases h
theorem ck_sor {P : Pg} {N : List String} {sc : Scope} {a : Uk.E} {p : PySem.Expr} (h : ckE P N sc (.sor a) p = true) : ∃ p1 pos q, p = .Call (.Name (sS "sorted") p1) [q] [] pos ∧ glB sc (sS "sorted") = true ∧ ckE P N sc a q = true := by
  unfold ckE at h
  cases hs : oneArg p with
  | none => rw [hs] at h; cases h
  | some t =>
    obtain ⟨x, q⟩ := t
    rw [hs] at h
    simp only [Bool.and_eq_true] at h
    obtain ⟨⟨h1, h2⟩, h3⟩ := h
    have h1 := of_decide_eq_true h1
    subst h1
    obtain ⟨p1, pos, e⟩ := oneArg_some hs
    exact ⟨p1, pos, q, e, h2, h3⟩
theorem ck_rev {P : Pg} {N : List String} {sc : Scope} {a : Uk.E} {p : PySem.Expr} (h : ckE P N sc (.rev a) p = true) : ∃ k p1 p2 p3 pos q, p = .Subscript q (.Slice none none (some (.UnaryOp .USub (.Constant (.int 1) k p1) p2)) p3) pos ∧ ckE P N sc a q = true := by
  unfold ckE at h
  cases hs : revArg p with
  | none => rw [hs] at h; cases h
  | some q =>
    rw [hs] at h
    obtain ⟨k, p1, p2, p3, pos, e⟩ := revArg_some hs
    exact ⟨k, p1, p2, p3, pos, q, e, h⟩
theorem dinArg_some {p q : PySem.Expr} {x : Str} (h : dinArg p = some (x, q)) : ∃ p1 pos, p = .Compare q [.In] [.Name x p1] pos := by
  unfold dinArg at h
  split at h
  · cases h
    exact ⟨_, _, rfl⟩
  · cases h
theorem dixArg_some {p q : PySem.Expr} {x : Str} (h : dixArg p = some (x, q)) : ∃ p1 pos, p = .Subscript (.Name x p1) q pos := by
  unfold dixArg at h
  split at h
  · cases h
    exact ⟨_, _, rfl⟩
  · cases h
theorem gixArg_some {p q : PySem.Expr} {x : Str} (h : gixArg p = some (x, q)) : ∃ p1 apos pos, p = .Call (.Attribute (.Name x p1) (sS "index") apos) [q] [] pos ∧ lineB apos pos = true := by
  unfold gixArg at h
  split at h
  · split at h
    · rename_i e
      obtain ⟨e1, e2⟩ := e
      subst e1
      cases h
      exact ⟨_, _, _, rfl, e2⟩
    · cases h
  · cases h
theorem ck_din {P : Pg} {N : List String} {sc : Scope} {x : String} {a : Uk.E} {p : PySem.Expr} (h : ckE P N sc (.din x a) p = true) : ∃ p1 pos q, p = .Compare q [.In] [.Name (sS x) p1] pos ∧ glB sc (sS x) = true ∧ (P.dct x).isSome = true ∧ ckE P N sc a q = true := by
  unfold ckE at h
  cases hs : dinArg p with
  | none => rw [hs] at h; cases h
  | some t =>
    obtain ⟨y, q⟩ := t
    rw [hs] at h
    simp only [Bool.and_eq_true] at h
    obtain ⟨⟨⟨h1, h2⟩, h3⟩, h4⟩ := h
    have h1 := of_decide_eq_true h1
    subst h1
    obtain ⟨p1, pos, e⟩ := dinArg_some hs
    exact ⟨p1, pos, q, e, h2, h3, h4⟩
theorem ck_dix {P : Pg} {N : List String} {sc : Scope} {x : String} {a : Uk.E} {p : PySem.Expr} (h : ckE P N sc (.dix x a) p = true) : ∃ p1 pos q, p = .Subscript (.Name (sS x) p1) q pos ∧ glB sc (sS x) = true ∧ (P.dct x).isSome = true ∧ ckE P N sc a q = true := by
  unfold ckE at h
  cases hs : dixArg p with
  | none => rw [hs] at h; cases h
  | some t =>
    obtain ⟨y, q⟩ := t
    rw [hs] at h
    simp only [Bool.and_eq_true] at h
    obtain ⟨⟨⟨h1, h2⟩, h3⟩, h4⟩ := h
    have h1 := of_decide_eq_true h1
    subst h1
    obtain ⟨p1, pos, e⟩ := dixArg_some hs
    exact ⟨p1, pos, q, e, h2, h3, h4⟩
theorem ck_gix {P : Pg} {N : List String} {sc : Scope} {x : String} {a : Uk.E} {p : PySem.Expr} (h : ckE P N sc (.gix x a) p = true) : ∃ p1 apos pos q xs, p = .Call (.Attribute (.Name (sS x) p1) (sS "index") apos) [q] [] pos ∧ lineB apos pos = true ∧ glB sc (sS x) = true ∧ P.con x = some (.tup xs) ∧ ckE P N sc a q = true := by
  unfold ckE at h
  cases hs : gixArg p with
  | none => rw [hs] at h; cases h
  | some t =>
    obtain ⟨y, q⟩ := t
    rw [hs] at h
    simp only [Bool.and_eq_true] at h
    obtain ⟨⟨⟨h1, h2⟩, h3⟩, h4⟩ := h
    have h1 := of_decide_eq_true h1
    subst h1
    obtain ⟨p1, apos, pos, e, e2⟩ := gixArg_some hs
    split at h3
    · rename_i xs hx
      exact ⟨p1, apos, pos, q, xs, e, e2, h2, hx, h4⟩
    · cases h3
theorem ck_srt {P : Pg} {N : List String} {sc : Scope} {f y : String} {a : Uk.E} {p : PySem.Expr} (h : ckE P N sc (.srt a f y) p = true) : ∃ q sc2 p1 p2 p3 p4 p5 p6 p7 pos, p = .Call (.Name (sS "sorted") p1) [q] [⟨some (sS "key"), .Lambda (lamA (sS y) p2) (.Call (.Name (sS f) p3) [.Name (sS y) p4] [] p5) sc2 p6, p7⟩] pos ∧
    glB sc (sS "sorted") = true ∧ y ∈ lamYs ∧ nmB (sS y) = true ∧ lamB (sS y) sc2 = true ∧ glB sc2 (sS f) = true ∧ (P.fn "" f).isSome = true ∧ ckE P N sc a q = true := by
  unfold ckE at h
  cases hs : srtArg p with
  | none => rw [hs] at h; cases h
  | some t =>
    obtain ⟨q, f2, y2, sc2⟩ := t
    rw [hs] at h
    simp only [Bool.and_eq_true] at h
    obtain ⟨⟨⟨⟨⟨⟨⟨⟨h1, h2⟩, h3⟩, h4⟩, h5⟩, h6⟩, h7⟩, h8⟩, h9⟩ := h
    have h1 := of_decide_eq_true h1
    have h2 := of_decide_eq_true h2
    subst h1 h2
    obtain ⟨p1, p2, p3, p4, p5, p6, p7, p8, e⟩ := srtArg_some hs
    exact ⟨q, sc2, p1, p2, p3, p4, p5, p6, p7, p8, e, h4, by simpa using h3, h5, h6, h7, h8, h9⟩
theorem ck_dco {P : Pg} {N : List String} {sc : Scope} {t : Bool} {vs : List Nat} {k v : Uk.E} {tg : Tg} {it : Uk.It} {p : PySem.Expr} (h : ckE P N sc (.dco t vs k v tg it) p = true) : ∃ kx vx pt pi scope pos, t = false ∧ p = .DictComp kx vx [⟨pt, pi, [], 0⟩] scope pos ∧ (ownOf N vs).map (·.2) = vs ∧ blkC (N.map sS) sc scope (ownOf N vs) = true ∧ ckT N scope tg pt = true ∧ (∀ i ∈ tgIx tg, i ∈ vs) ∧
    tgFor it tg = true ∧ ckI P N sc it pi = true ∧ ckE P N (relS scope sc) k kx = true ∧ ckE P N (relS scope sc) v vx = true := by
  unfold ckE at h
  cases hs : dcArg p with
  | none => rw [hs] at h; cases h
  | some z =>
    obtain ⟨kx, vx, pt, pi, scope⟩ := z
    rw [hs] at h
    simp only [Bool.and_eq_true, List.all_eq_true, List.contains_iff_mem, Bool.not_eq_true'] at h
    obtain ⟨⟨⟨⟨⟨⟨⟨⟨h1, h2⟩, h3⟩, h4⟩, h5⟩, h6⟩, h7⟩, h8⟩, h9⟩ := h
    obtain ⟨pos, e⟩ := dcArg_some hs
    exact ⟨kx, vx, pt, pi, scope, pos, h1, e, of_decide_eq_true h2, h3, h4, h5, h6, h7, h8, h9⟩
theorem ck_enum {P : Pg} {N : List String} {sc : Scope} {e : Uk.E} {p : PySem.Expr} (h : ckI P N sc (.enum e) p = true) : ∃ p1 q pos, p = .Call (.Name (sS "enumerate") p1) [q] [] pos ∧ glB sc (sS "enumerate") = true ∧ ckE P N sc e q = true := by
  unfold ckI at h
  split at h
  all_goals first
    | (rename_i hh; cases hh; done)
    | exact absurd h Bool.false_ne_true
    | (rename_i hh
       cases hh
       simp only [Bool.and_eq_true] at h
       obtain ⟨⟨h1, h2⟩, h3⟩ := h
       have h1 := of_decide_eq_true h1
       subst h1
       exact ⟨_, _, _, rfl, h2, h3⟩)
theorem ck_r1 {P : Pg} {N : List String} {sc : Scope} {e : Uk.E} {p : PySem.Expr} (h : ckI P N sc (.r1 e) p = true) : ∃ p1 q pos, p = .Call (.Name (sS "range") p1) [q] [] pos ∧ glB sc (sS "range") = true ∧ ckE P N sc e q = true := by
  unfold ckI at h
  split at h
  all_goals first
    | (rename_i hh; cases hh; done)
    | exact absurd h Bool.false_ne_true
    | (rename_i hh
       cases hh
       simp only [Bool.and_eq_true] at h
       obtain ⟨⟨h1, h2⟩, h3⟩ := h
       have h1 := of_decide_eq_true h1
       subst h1
       exact ⟨_, _, _, rfl, h2, h3⟩)
theorem ck_r3 {P : Pg} {N : List String} {sc : Scope} {a b d : Uk.E} {p : PySem.Expr} (h : ckI P N sc (.r3 a b d) p = true) : ∃ p1 pa pb pd pos, p = .Call (.Name (sS "range") p1) [pa, pb, pd] [] pos ∧ glB sc (sS "range") = true ∧ ckE P N sc a pa = true ∧ ckE P N sc b pb = true ∧ ckE P N sc d pd = true := by
  unfold ckI at h
  split at h
  all_goals first
    | (rename_i hh; cases hh; done)
    | exact absurd h Bool.false_ne_true
    | (rename_i hh
       cases hh
       simp only [Bool.and_eq_true] at h
       obtain ⟨⟨⟨⟨h1, h2⟩, h3⟩, h4⟩, h5⟩ := h
       have h1 := of_decide_eq_true h1
       subst h1
       exact ⟨_, _, _, _, _, rfl, h2, h3, h4, h5⟩)
theorem ckPs_all {P : Pg} {N : List String} {sc : Scope} : ∀ {ps : Uk.Ps} {ks : List (Option PySem.Expr)} {vs : List PySem.Expr}, ckPs P N sc ps ks vs = true → ks.all (·.isSome) = true ∧ ks.length = vs.length
  | .n, ks, vs, h => by
    match ks, vs, h with
    | [], [], _ => exact ⟨rfl, rfl⟩
    | [], _ :: _, h => unfold ckPs at h; exact absurd h Bool.false_ne_true
    | _ :: _, _, h => unfold ckPs at h; exact absurd h Bool.false_ne_true
  | .c k v rest, ks, vs, h => by
    match ks, vs, h with
    | [], _, h => unfold ckPs at h; exact absurd h Bool.false_ne_true
    | none :: _, _, h => unfold ckPs at h; exact absurd h Bool.false_ne_true
    | some _ :: _, [], h => unfold ckPs at h; exact absurd h Bool.false_ne_true
    | some p :: ks, q :: vs, h =>
      unfold ckPs at h
      simp only [Bool.and_eq_true] at h
      obtain ⟨a, b⟩ := ckPs_all h.2
      exact ⟨by simpa using a, by simp [b]⟩
theorem evs_of_nil {c : Cx} {P : Pg} {N : List String} {sc : Scope} {es : Uk.Es} {ps : List PySem.Expr} (h : ckEs P N sc es ps = true) : ps = [] → ∀ e g, evs c es e g = .ok [] g := by
  intro e δ g
  subst e
  rw [evs_nil h]
  rfl
section
variable {ck : Arguments → List Stmt → Scope → FDef → Bool} {c : Cx} {N : List String}
theorem pi_r3D {X : L2.Cx} {sc : Scope} {E : L2.St → XK} {tg pa pb pd : PySem.Expr} {p1 pos : Pos} {a b d : Uk.E} (O : XOk X ck c N sc E) (hg : glB sc (sS "range") = true) (hpl : ∀ p ∈ [pa, pb, pd], plainP p = true) (ha : PA X [pa, pb, pd] (LA X E (evs c (.c a (.c b (.c d .n)))))) :
    PI X tg (.Call (.Name (sS "range") p1) [pa, pb, pd] [] pos) (LI X E (evI c (.r3 a b d))) := by
  obtain ⟨gl, nd, nn⟩ := pe_callD.gl_of O hg
  have ba : (backTo pos (starEach [pb, pd] X.env)).any (·.1) = false := back_any fun q hq => hpl q (List.mem_cons_of_mem _ hq)
  have P1 := pi_range3 (tg := tg) (p := p1) (pos := pos) gl (O.gf.blt "range" (by simp [bnames])) ha (star_plain (hpl pa List.mem_cons_self)) ba
  refine ⟨fun pins s σ H Rr I ⟨r, g, e, R, er, hp⟩ => P1.run pins s σ H Rr I ⟨r, g, e, R, er, ?_⟩⟩
  have e2 : evI c (.r3 a b d) e g = (evs c (.c a (.c b (.c d .n))) e g).bind fun l g => match l with
      | [x, y, z] => (match rng3 x y z with
        | some w => .ok w g
        | none => .bad)
      | _ => .bad := by
    rw [evs3]
    show ((ev c a e g).bind fun x g => (ev c b e g).bind fun y g => (ev c d e g).bind fun z g => match rng3 x y z with
      | some w => .ok w g
      | none => .bad) = _
    cases ev c a e g with
    | ok x g1 =>
      show ((ev c b e g1).bind fun y g => (ev c d e g).bind fun z g => match rng3 x y z with
        | some w => .ok w g
        | none => .bad) = ((ev c b e g1).bind fun y g => (ev c d e g).bind fun z g => .ok [x, y, z] g).bind _
      cases ev c b e g1 with
      | ok y g2 =>
        show ((ev c d e g2).bind fun z g => match rng3 x y z with
          | some w => .ok w g
          | none => .bad) = ((ev c d e g2).bind fun z g => .ok [x, y, z] g).bind _
        cases ev c d e g2 <;> rfl
      | exc _ _ => rfl
      | bad => rfl
    | exc _ _ => rfl
    | bad => rfl
  rw [e2] at hp
  cases hm : evs c (.c a (.c b (.c d .n))) e g with
  | bad => rw [hm] at hp; exact hp.elim
  | exc x g1 => rw [hm] at hp; exact hp
  | ok ds g1 =>
    rw [hm] at hp
    intro r' vs H' x R' q
    rw [evs3] at hm
    have h3 : ∃ x y z, ds = [x, y, z] := by
      cases h1 : ev c a e g with
      | ok x g1 =>
        rw [h1] at hm
        have hm : ((ev c b e g1).bind fun y g => (ev c d e g).bind fun z g => Uk.R.ok [x, y, z] g) = _ := hm
        cases h2 : ev c b e g1 with
        | ok y g2 =>
          rw [h2] at hm
          have hm : ((ev c d e g2).bind fun z g => Uk.R.ok [x, y, z] g) = _ := hm
          cases h4 : ev c d e g2 with
          | ok z g3 => rw [h4] at hm; cases hm; exact ⟨_, _, _, rfl⟩
          | exc _ _ => rw [h4] at hm; cases hm
          | bad => rw [h4] at hm; cases hm
        | exc _ _ => rw [h2] at hm; cases hm
        | bad => rw [h2] at hm; cases hm
      | exc _ _ => rw [h1] at hm; cases hm
      | bad => rw [h1] at hm; cases hm
    obtain ⟨dx, dy, dz, rfl⟩ := h3
    have hp : PostI X.K X.mg X.w (E σ) r H (match rng3 dx dy dz with
        | some w => .ok w g1
        | none => .bad) Rr := hp
    obtain ⟨v1, w1, rfl, q1, w2⟩ := q.inv
    obtain ⟨v2, v3, rfl, q2, q3⟩ := w2.two
    unfold rng3 at hp
    split at hp
    · rename_i w hw
      split at hw
      · split at hw
        · rename_i hj
          cases hw
          refine ⟨_, _, -1, _, by rw [q1.int_inv, q2.int_inv, q3.int_inv], RgC.neg (by omega) (by omega) (by omega) (by omega), hp r' H' _ x R' Wk.rng_ok⟩
        · cases hw
      · cases hw
    · exact hp.elim
mutual
theorem okE (HE : ∀ X sc (E : L2.St → XK), XOk X ck c N sc E → ∀ E, EqIns X c E) : ∀ (e : Uk.E) (X : L2.Cx) (sc : Scope) (E : L2.St → XK) (p : PySem.Expr), XOk X ck c N sc E → ckE c.P N sc e p = true → OkE X E p (ev c e)
  | .cst d, X, sc, E, p, O, h => by
    cases p with
    | Constant k j pos =>
      unfold ckE at h
      exact .of rfl (ok_cst h)
    | _ => unfold ckE at h; exact absurd h Bool.false_ne_true
  | .loc i, X, sc, E, p, O, h => by
    cases p with
    | Name x pos =>
      unfold ckE at h
      exact .of rfl (ok_loc O h)
    | _ => unfold ckE at h; exact absurd h Bool.false_ne_true
  | .glo s, X, sc, E, p, O, h => by
    cases p with
    | Name x pos =>
      unfold ckE at h
      simp only [Bool.and_eq_true] at h
      obtain ⟨⟨h1, h2⟩, h3⟩ := h
      have h1 := of_decide_eq_true h1
      subst h1
      exact .of rfl (ok_glo O h2 h3)
    | _ => unfold ckE at h; exact absurd h Bool.false_ne_true
  | .tup es, X, sc, E, p, O, h => by
    cases p with
    | Tuple ps k pos =>
      unfold ckE at h
      exact .of rfl (ok_tup (okEs HE es X sc E ps O h))
    | _ => unfold ckE at h; exact absurd h Bool.false_ne_true
  | .lst es, X, sc, E, p, O, h => by
    cases p with
    | List ps pos =>
      unfold ckE at h
      exact .of rfl (ok_lst (okEs HE es X sc E ps O h))
    | _ => unfold ckE at h; exact absurd h Bool.false_ne_true
  | .bin o a b, X, sc, E, p, O, h => by
    cases p with
    | BinOp pa q pb pos =>
      unfold ckE at h
      simp only [Bool.and_eq_true] at h
      obtain ⟨⟨h1, h2⟩, h3⟩ := h
      have h1 : bopOp o = q := of_decide_eq_true h1
      subst h1
      exact .of rfl (ok_bin (okE HE a X sc E pa O h2).pe (okE HE b X sc E pb O h3).pe)
    | _ => unfold ckE at h; exact absurd h Bool.false_ne_true
  | .neg a, X, sc, E, p, O, h => by
    cases p with
    | UnaryOp o pa pos =>
      cases o with
      | USub =>
        unfold ckE at h
        exact .of rfl (ok_neg (okE HE a X sc E pa O h).pe)
      | _ => unfold ckE at h; exact absurd h Bool.false_ne_true
    | _ => unfold ckE at h; exact absurd h Bool.false_ne_true
  | .cmp o a b, X, sc, E, p, O, h => by
    cases p with
    | Compare pa os bs pos =>
      match os, bs with
      | [q], [t] =>
        unfold ckE at h
        simp only [Bool.and_eq_true] at h
        obtain ⟨⟨h1, h2⟩, h3⟩ := h
        obtain ⟨h4, h5⟩ := copB_inv h1
        subst h4
        exact ok_cmp O (HE X sc E O) (ck_plain h3) h5 (okE HE a X sc E pa O h2).pe (okE HE b X sc E t O h3).pe
      | [], _ => unfold ckE at h; exact absurd h Bool.false_ne_true
      | [_], [] => unfold ckE at h; exact absurd h Bool.false_ne_true
      | [_], _ :: _ :: _ => unfold ckE at h; exact absurd h Bool.false_ne_true
      | _ :: _ :: _, _ => unfold ckE at h; exact absurd h Bool.false_ne_true
    | _ => unfold ckE at h; exact absurd h Bool.false_ne_true
  | .chn a o b o2 d, X, sc, E, p, O, h => by
    cases p with
    | Compare pa os bs pos =>
      match os, bs with
      | [q, q2], [t, u] =>
        unfold ckE at h
        simp only [Bool.and_eq_true] at h
        obtain ⟨⟨⟨⟨h1, h2⟩, h3⟩, h6⟩, h7⟩ := h
        obtain ⟨h4, h5⟩ := copB_inv h1
        obtain ⟨h8, h9⟩ := copB_inv h2
        subst h4 h8
        exact ok_chn O (HE X sc E O) (ck_plain h7) h5 h9 (okE HE a X sc E pa O h3).pe (okE HE b X sc E t O h6).pe (okE HE d X sc E u O h7).pe
      | [], _ => unfold ckE at h; exact absurd h Bool.false_ne_true
      | [_], _ => unfold ckE at h; exact absurd h Bool.false_ne_true
      | [_, _], [] => unfold ckE at h; exact absurd h Bool.false_ne_true
      | [_, _], [_] => unfold ckE at h; exact absurd h Bool.false_ne_true
      | [_, _], _ :: _ :: _ :: _ => unfold ckE at h; exact absurd h Bool.false_ne_true
      | _ :: _ :: _ :: _, _ => unfold ckE at h; exact absurd h Bool.false_ne_true
    | _ => unfold ckE at h; exact absurd h Bool.false_ne_true
  | .and_ a b, X, sc, E, p, O, h => by
    cases p with
    | BoolOp o ps pos =>
      cases o with
      | And =>
        match ps with
        | [] => unfold ckE at h; exact absurd h Bool.false_ne_true
        | [_] => unfold ckE at h; exact absurd h Bool.false_ne_true
        | [pa, pb] =>
          unfold ckE at h
          simp only [Bool.and_eq_true] at h
          exact ok_and1 (okE HE a X sc E pa O h.1) (okE HE b X sc E pb O h.2)
        | pa :: pb :: pc :: l =>
          unfold ckE at h
          simp only [Bool.and_eq_true] at h
          exact ok_andN (okE HE a X sc E pa O h.1) (okE HE b X sc E _ O h.2)
      | Or => unfold ckE at h; exact absurd h Bool.false_ne_true
    | _ => unfold ckE at h; exact absurd h Bool.false_ne_true
  | .or_ a b, X, sc, E, p, O, h => by
    cases p with
    | BoolOp o ps pos =>
      cases o with
      | Or =>
        match ps with
        | [] => unfold ckE at h; exact absurd h Bool.false_ne_true
        | [_] => unfold ckE at h; exact absurd h Bool.false_ne_true
        | [pa, pb] =>
          unfold ckE at h
          simp only [Bool.and_eq_true] at h
          exact ok_or1 (okE HE a X sc E pa O h.1) (okE HE b X sc E pb O h.2)
        | pa :: pb :: pc :: l =>
          unfold ckE at h
          simp only [Bool.and_eq_true] at h
          exact ok_orN (okE HE a X sc E pa O h.1) (okE HE b X sc E _ O h.2)
      | And => unfold ckE at h; exact absurd h Bool.false_ne_true
    | _ => unfold ckE at h; exact absurd h Bool.false_ne_true
  | .not_ a, X, sc, E, p, O, h => by
    cases p with
    | UnaryOp o pa pos =>
      cases o with
      | Not =>
        unfold ckE at h
        exact ok_not (okE HE a X sc E pa O h)
      | _ => unfold ckE at h; exact absurd h Bool.false_ne_true
    | _ => unfold ckE at h; exact absurd h Bool.false_ne_true
  | .ite t a b, X, sc, E, p, O, h => by
    cases p with
    | IfExp pt pa pb pos =>
      unfold ckE at h
      simp only [Bool.and_eq_true] at h
      obtain ⟨⟨⟨h1, _⟩, h2⟩, h3⟩ := h
      exact ok_ite (okE HE t X sc E pt O h1) (okE HE a X sc E pa O h2) (okE HE b X sc E pb O h3)
    | _ => unfold ckE at h; exact absurd h Bool.false_ne_true
  | .ix a i, X, sc, E, p, O, h => by
    cases p with
    | Subscript pa pb pos =>
      unfold ckE at h
      simp only [Bool.and_eq_true] at h
      exact .of rfl (ok_ix O.units (ck_plain h.2) (okE HE a X sc E pa O h.1).pe (okE HE i X sc E pb O h.2).pe)
    | _ => unfold ckE at h; exact absurd h Bool.false_ne_true
  | .cut a lo hi, X, sc, E, p, O, h => by
    cases p with
    | Subscript pa q pos =>
      cases q with
      | Slice l hh st p1 =>
        cases st with
        | none =>
          unfold ckE at h
          simp only [Bool.and_eq_true] at h
          obtain ⟨⟨h1, h2⟩, h3⟩ := h
          have L1 : (l = none ∧ isnC lo = true) ∨ (∃ q, l = some q ∧ isnC lo = false ∧ PE X q (LE X E (ev c lo))) := by
            cases l with
            | none => exact .inl ⟨rfl, h2⟩
            | some q =>
              rw [Bool.and_eq_true, Bool.not_eq_true'] at h2
              exact .inr ⟨q, rfl, h2.1, (okE HE lo X sc E q O h2.2).pe⟩
          have L2 : (hh = none ∧ isnC hi = true) ∨ (∃ q, hh = some q ∧ isnC hi = false ∧ PE X q (LE X E (ev c hi))) := by
            cases hh with
            | none => exact .inl ⟨rfl, h3⟩
            | some q =>
              rw [Bool.and_eq_true, Bool.not_eq_true'] at h3
              exact .inr ⟨q, rfl, h3.1, (okE HE hi X sc E q O h3.2).pe⟩
          have P := ok_cut (p1 := p1) (pos := pos) (okE HE a X sc E pa O h1).pe L1 L2
          refine .of rfl ⟨fun pins s σ H Q I ⟨r, g, e, R, er, hp⟩ => P.run pins s σ H Q I ⟨r, g, e, R, er, ?_⟩⟩
          refine cast ?_ hp
          congr 1
          show ((ev c a e g).bind fun x g => match isnC lo, isnC hi with
            | true, true => getCut x none none g
            | true, false => (ev c hi e g).bind fun h g => orElse h.int? fun h => getCut x none (some h) g
            | false, true => (ev c lo e g).bind fun l g => orElse l.int? fun l => getCut x (some l) none g
            | false, false => (ev c lo e g).bind fun l g => orElse l.int? fun l => (ev c hi e g).bind fun h g => orElse h.int? fun h => getCut x (some l) (some h) g) = _
          congr 1
          funext x g
          unfold pO
          cases isnC lo <;> cases isnC hi <;> rfl
        | some _ => unfold ckE at h; exact absurd h Bool.false_ne_true
      | _ => unfold ckE at h; exact absurd h Bool.false_ne_true
    | _ => unfold ckE at h; exact absurd h Bool.false_ne_true
  | .rev a, X, sc, E, p, O, h => by
    obtain ⟨k, p1, p2, p3, pos, q, rfl, h1⟩ := ck_rev h
    exact .of rfl (pe_rev (okE HE a X sc E q O h1).pe)
  | .att a f, X, sc, E, p, O, h => by
    cases p with
    | Attribute pa x pos =>
      unfold ckE at h
      simp only [Bool.and_eq_true] at h
      obtain ⟨⟨h1, h2⟩, h3⟩ := h
      have h1 := of_decide_eq_true h1
      subst h1
      exact .of rfl (pe_attD O h2 (okE HE a X sc E pa O h3).pe)
    | _ => unfold ckE at h; exact absurd h Bool.false_ne_true
  | .call f es, X, sc, E, p, O, h => by
    obtain ⟨p1, ps, pos, rfl, h1, h2, h3⟩ := ck_call h
    exact .of rfl (pe_callD O h1 (ckEs_all h3) (evs_of_nil h3) h2 (okEs HE es X sc E ps O h3))
  | .mk f es, X, sc, E, p, O, h => by
    obtain ⟨p1, ps, pos, rfl, h1, h2, h3, h4⟩ := ck_mk h
    exact .of rfl (pe_mkD O h1 (ckEs_all h4) (evs_of_nil h4) h2 h3 (okEs HE es X sc E ps O h4))
  | .met a m es, X, sc, E, p, O, h => by
    obtain ⟨q, p1, ps, pos, rfl, h1, h2, h3, h4, h5⟩ := ck_met h
    exact .of rfl (pe_metD O h1 (ckEs_all h5) (evs_of_nil h5) h3 h2 (okE HE a X sc E q O h4).pe (okEs HE es X sc E ps O h5))
  | .bi f es, X, sc, E, p, O, h => by
    obtain ⟨p1, ps, pos, rfl, h1, h2, h3⟩ := ck_bi h
    exact .of rfl (ok_bi O h1 h2 (ckEs_all h3) (okEs HE es X sc E ps O h3))
  | .isi a t, X, sc, E, p, O, h => by
    obtain ⟨p1, q, p2, pos, rfl, h1, h2, h3, h4⟩ := ck_isi h
    exact .of rfl (pe_isiD O h1 h2 (ck_plain h4) h3 (okE HE a X sc E q O h4).pe)
  | .comp vs elt tg it cond, X, sc, E, p, O, h => by
    obtain ⟨q, pt, pi, ifs, scope, pos, rfl, h1, h2, h3, h4, h5, h6, h7, h8⟩ := ck_comp h
    refine .of rfl (ok_comp O h1 h2 h3 h4 (okI HE it X sc E pt pi O (tg_tuple h5 h3) h6) (fold_plain (ckI_plain h6)) (fun Y OY => ?_) (fun Y OY => (okE HE elt Y (relS scope sc) E0' q OY h8).pe))
    rcases h7 with ⟨rfl, rfl⟩ | ⟨q2, rfl, h7⟩
    · exact ⟨fun pins s σ H Q I ⟨r, g, e, R, er, hp⟩ => by
        obtain ⟨b, eb, hq⟩ := Post.here (d := .bl true) hp R .bl
        cases eb
        exact pts_nil.run pins s σ H Q I hq⟩
    · exact pts_one (okE HE cond Y (relS scope sc) E0' q2 OY h7).pt
  | .fmt a, X, sc, E, p, O, h => by
    cases p with
    | FormattedValue q k fs pos =>
      cases fs with
      | some _ => unfold ckE at h; exact absurd h Bool.false_ne_true
      | none =>
        unfold ckE at h
        rw [Bool.and_eq_true] at h
        obtain ⟨h1, h2⟩ := h
        have h1 := of_decide_eq_true h1
        subst h1
        refine .of rfl ⟨fun pins s σ H Q I ⟨r, g, e, R, er, hp⟩ => (pe_fmt (okE HE a X sc E q O h2).pe).run pins s σ H Q I (LE.bind R er hp fun r1 g1 H1 d v x R1 er1 hv hp => ?_)⟩
        cases d with
        | str z =>
          dsimp only at hp
          split at hp
          · rename_i hl
            refine .inl ⟨sS z, hv.str_inv, by rw [sS_len]; exact hl, Post.here (d := .str z) hp R1 VR.str⟩
          · exact hp.elim
        | _ => exact hp.elim
    | _ => unfold ckE at h; exact absurd h Bool.false_ne_true
  | .fst es, X, sc, E, p, O, h => by
    cases p with
    | JoinedStr ps pos =>
      unfold ckE at h
      rw [Bool.and_eq_true] at h
      obtain ⟨h1, h2⟩ := h
      have h1 := of_decide_eq_true h1
      obtain ⟨ts, t1, t2⟩ := okF HE es X sc E ps O h2
      match ps, h1, t1 with
      | v1 :: v2 :: rest, _, t1 =>
        exact .of rfl ⟨fun pins s σ H Q I ⟨r, g, e, R, er, hp⟩ => (pe_joined t1).run pins s σ H Q I (t2 "" σ H Q r g e R er hp)⟩
    | _ => unfold ckE at h; exact absurd h Bool.false_ne_true
  | .nope, X, sc, E, p, O, h => ⟨⟨fun pins s σ H Q I ⟨r, g, e, R, er, hp⟩ => hp.elim⟩, ⟨fun pins s σ H Q I ⟨r, g, e, R, er, hp⟩ => hp.elim⟩, fun _ => ⟨fun wh pins s σ H Q I ⟨r, g, e, R, er, hp⟩ => hp.elim⟩⟩
  | .exf f, X, sc, E, p, O, h => by cases p <;> (unfold ckE at h; exact absurd h Bool.false_ne_true)
  | .exi f, X, sc, E, p, O, h => by cases p <;> (unfold ckE at h; exact absurd h Bool.false_ne_true)
  | .dsp t ps, X, sc, E, p, O, h => by
    cases p with
    | Dict ks vs pos =>
      unfold ckE at h
      simp only [Bool.and_eq_true, Bool.not_eq_true', Bool.or_eq_true] at h
      obtain ⟨⟨h2, h3⟩, h4⟩ := h
      obtain ⟨a1, a2⟩ := ckPs_all h4
      cases t with
      | false =>
        have h2 : ks.isEmpty = false := by
          rcases h2 with z | z
          · cases z
          · exact z
        exact .of rfl (pe_dspD (okPs HE ps X sc E ks vs pos O h4) a1 a2 (fun z => by rw [z] at h2; cases h2) (of_decide_eq_true h3))
      | true =>
        match ks, vs, ps, h3, h4, a1, a2 with
        | [], [], .n, _, _, _, _ => exact .of rfl pe_dsp0
        | [], [], .c _ _ _, _, h4, _, _ => unfold ckPs at h4; exact absurd h4 Bool.false_ne_true
        | [], _ :: _, _, _, _, _, a2 => cases a2
        | _ :: _, _, .n, _, h4, _, _ => unfold ckPs at h4; exact absurd h4 Bool.false_ne_true
        | k0 :: ks, vs, .c e1 e2 ps, h3, h4, a1, a2 => exact .of rfl (pe_dspT O.units (fun z => by cases z) (okPs HE (.c e1 e2 ps) X sc E (k0 :: ks) vs pos O h4) a1 a2 (fun z => by cases z) (of_decide_eq_true h3))
    | _ => unfold ckE at h; exact absurd h Bool.false_ne_true
  | .sset a, X, sc, E, p, O, h => by
    obtain ⟨p1, p2, q0, pos, q, rfl, h1, h2, h3⟩ := ck_sset h
    exact .of rfl (pe_sset O h1 h2 (okE HE a X sc E q O h3).pe (ck_plain h3))
  | .lset a, X, sc, E, p, O, h => by
    obtain ⟨p1, p2, q0, pos, q, rfl, h1, h2, h3⟩ := ck_lset h
    exact .of rfl (pe_lset O h1 h2 (okE HE a X sc E q O h3).pe (ck_plain h3))
  | .dco t vs k v tg it, X, sc, E, p, O, h => by
    obtain ⟨kx, vx, pt, pi, scope, pos, rfl, rfl, h1, h2, h3, h4, h5, h6, h7, h8⟩ := ck_dco h
    exact .of rfl (ok_dco O h1 h2 h3 h4 (okI HE it X sc E pt pi O (tg_tuple h5 h3) h6) (fold_plain (ckI_plain h6)) (fun Y OY => (okE HE k Y (relS scope sc) E0' kx OY h7).pe) (fun Y OY => (okE HE v Y (relS scope sc) E0' vx OY h8).pe))
  | .gix x a, X, sc, E, p, O, h => by
    obtain ⟨p1, apos, pos, q, xs, rfl, h1, h2, h3, h4⟩ := ck_gix h
    exact .of rfl (pe_gix O h2 h3 h1 (ck_plain h4) (okE HE a X sc E q O h4).pe)
  | .din x a, X, sc, E, p, O, h => by
    obtain ⟨p1, pos, q, rfl, h1, h2, h3⟩ := ck_din h
    exact ok_din O h1 h2 (okE HE a X sc E q O h3).pe
  | .dix x a, X, sc, E, p, O, h => by
    obtain ⟨p1, pos, q, rfl, h1, h2, h3⟩ := ck_dix h
    exact .of rfl (pe_dix O h1 h2 (ck_plain h3) (okE HE a X sc E q O h3).pe)
  | .sor a, X, sc, E, p, O, h => by
    obtain ⟨p1, pos, q, rfl, h1, h2⟩ := ck_sor h
    exact .of rfl (pe_sor O h1 (okE HE a X sc E q O h2).pe (ck_plain h2))
  | .srt a f y, X, sc, E, p, O, h => by
    obtain ⟨q, sc2, p1, p2, p3, p4, p5, p6, p7, pos, rfl, h1, h2, h3, h4, h5, h6, h7⟩ := ck_srt h
    exact .of rfl (pe_srt O h1 h2 h3 h4 h5 h6 (ck_plain h7) (okE HE a X sc E q O h7).pe)
theorem okPs (HE : ∀ X sc (E : L2.St → XK), XOk X ck c N sc E → ∀ E, EqIns X c E) : ∀ (ps : Uk.Ps) (X : L2.Cx) (sc : Scope) (E : L2.St → XK) (ks : List (Option PySem.Expr)) (vs : List PySem.Expr) (pos : Pos), XOk X ck c N sc E → ckPs c.P N sc ps ks vs = true → PPs X pos ks vs (trsOf c E X ps)
  | .n, X, sc, E, ks, vs, pos, O, h => by
    match ks, vs, h with
    | [], [], _ => exact pps_nil
    | [], _ :: _, h => unfold ckPs at h; exact absurd h Bool.false_ne_true
    | _ :: _, _, h => unfold ckPs at h; exact absurd h Bool.false_ne_true
  | .c k v rest, X, sc, E, ks, vs, pos, O, h => by
    match ks, vs, h with
    | [], _, h => unfold ckPs at h; exact absurd h Bool.false_ne_true
    | none :: _, _, h => unfold ckPs at h; exact absurd h Bool.false_ne_true
    | some _ :: _, [], h => unfold ckPs at h; exact absurd h Bool.false_ne_true
    | some p :: ks, q :: vs, h =>
      unfold ckPs at h
      simp only [Bool.and_eq_true] at h
      obtain ⟨⟨h1, h2⟩, h3⟩ := h
      exact pps_cons (okE HE k X sc E p O h1).pe (okE HE v X sc E q O h2).pe (okPs HE rest X sc E ks vs pos O h3)
theorem okF (HE : ∀ X sc (E : L2.St → XK), XOk X ck c N sc E → ∀ E, EqIns X c E) : ∀ (es : Uk.Es) (X : L2.Cx) (sc : Scope) (E : L2.St → XK) (ps : List PySem.Expr), XOk X ck c N sc E → ckEs c.P N sc es ps = true → ∃ ts, PJ X ps ts ∧ ∀ (acc : String) (σ : L2.St) (H : Hp) (Q : VK) (r : List Addr) (g : G) (e : Env), Rel X.K X.mg X.w r g H → ER X.K r H e σ → Post X.K X.mg X.w (E σ) r H (evf c es acc e g) Q → tJs ts (sS acc) σ H (fun out H1 => Q (.str out) H1)
  | .n, X, sc, E, ps, O, h => by
    cases ps with
    | nil => exact ⟨[], .nil, fun acc σ H Q r g e R er hp => Post.here (d := .str acc) hp R VR.str⟩
    | cons _ _ => unfold ckEs at h; exact absurd h Bool.false_ne_true
  | .c e es, X, sc, E, ps, O, h => by
    cases ps with
    | nil => unfold ckEs at h; exact absurd h Bool.false_ne_true
    | cons p ps =>
      unfold ckEs at h
      rw [Bool.and_eq_true] at h
      obtain ⟨ts, h1, h2⟩ := okF HE es X sc E ps O h.2
      refine ⟨_, .cons (okE HE e X sc E p O h.1).pe h1, fun acc σ H Q r g δ R er hp => ?_⟩
      refine LE.bind R er hp fun r1 g1 H1 d v x R1 er1 hv hp => ?_
      cases d with
      | str z =>
        dsimp only at hp
        split at hp
        · rename_i hl
          refine ⟨sS z, hv.str_inv, ?_, ?_⟩
          · rw [← sS_app, sS_len]
            exact hl
          · rw [← sS_app]
            exact h2 (acc ++ z) σ H1 Q r1 g1 δ R1 er1 hp
        · exact hp.elim
      | _ => exact hp.elim
theorem okEs (HE : ∀ X sc (E : L2.St → XK), XOk X ck c N sc E → ∀ E, EqIns X c E) : ∀ (es : Uk.Es) (X : L2.Cx) (sc : Scope) (E : L2.St → XK) (ps : List PySem.Expr), XOk X ck c N sc E → ckEs c.P N sc es ps = true → PA X ps (LA X E (evs c es))
  | .n, X, sc, E, ps, O, h => by
    cases ps with
    | nil => exact pa_n
    | cons _ _ => unfold ckEs at h; exact absurd h Bool.false_ne_true
  | .c e es, X, sc, E, ps, O, h => by
    cases ps with
    | nil => unfold ckEs at h; exact absurd h Bool.false_ne_true
    | cons p ps =>
      unfold ckEs at h
      rw [Bool.and_eq_true] at h
      exact pa_c (ck_plain h.1) (okE HE e X sc E p O h.1).pe (okEs HE es X sc E ps O h.2)
theorem okI (HE : ∀ X sc (E : L2.St → XK), XOk X ck c N sc E → ∀ E, EqIns X c E) : ∀ (it : Uk.It) (X : L2.Cx) (sc : Scope) (E : L2.St → XK) (tg p : PySem.Expr), XOk X ck c N sc E → (isEnum it = true → ∃ elts kk tpos, tg = .Tuple elts kk tpos) → ckI c.P N sc it p = true → PI X tg p (LI X E (evI c it))
  | .seq e, X, sc, E, tg, p, O, ht, h => by
    unfold ckI at h
    exact pi_seqD (okE HE e X sc E p O h).pe
  | .gd x, X, sc, E, tg, p, O, ht, h => by
    cases p with
    | Name y pos =>
      unfold ckI at h
      simp only [Bool.and_eq_true] at h
      obtain ⟨⟨h1, h2⟩, h3⟩ := h
      have h1 := of_decide_eq_true h1
      subst h1
      exact pi_gd O h2 h3
    | _ => unfold ckI at h; exact absurd h Bool.false_ne_true
  | .enum e, X, sc, E, tg, p, O, ht, h => by
    obtain ⟨p1, q, pos, rfl, h1, h2⟩ := ck_enum h
    obtain ⟨elts, kk, tpos, rfl⟩ := ht rfl
    exact pi_enumD O h1 (ck_plain h2) (okE HE e X sc E q O h2).pe
  | .r1 e, X, sc, E, tg, p, O, ht, h => by
    obtain ⟨p1, q, pos, rfl, h1, h2⟩ := ck_r1 h
    exact pi_r1D O h1 (ck_plain h2) (okE HE e X sc E q O h2).pe
  | .r3 a b d, X, sc, E, tg, p, O, ht, h => by
    obtain ⟨p1, pa, pb, pd, pos, rfl, h1, h2, h3, h4⟩ := ck_r3 h
    have hpl : ∀ p ∈ [pa, pb, pd], plainP p = true := fun p hp => by
      simp only [List.mem_cons, List.not_mem_nil, or_false] at hp
      rcases hp with rfl | rfl | rfl
      · exact ck_plain h2
      · exact ck_plain h3
      · exact ck_plain h4
    refine pi_r3D O h1 hpl ?_
    exact pa_c (ck_plain h2) (okE HE a X sc E pa O h2).pe (pa_c (ck_plain h3) (okE HE b X sc E pb O h3).pe (pa_c (ck_plain h4) (okE HE d X sc E pd O h4).pe pa_n))
end
end
end Uk
end
section
set_option Elab.async false
set_option linter.all false
set_option maxRecDepth 100000
set_option autoImplicit false
set_option maxHeartbeats 1000000
namespace Uk
open PySem PySem.Spec PyProof.Rows L2
/-! ## Statements -/
def PostS (K : PySem.W.Frag) (mg : Str → Option Value) (wd : World) (E : XK) (r : List Addr) (H : Hp) (m : RS) (D : Ends) : Prop := match m with
  | .ok z g => match z with
    | (e', .nx) => ∀ r' σ' H', Ext r H r' H' → Rel K mg wd r' g H' → ER K r' H' e' σ' → D.nx σ' H'
    | (_, .rt d) => ∀ r' v H', Ext r H r' H' → Rel K mg wd r' g H' → VR K r' H' d v → D.rt v H'
  | .exc x g => ∀ r' H' cls dx, Ext r H r' H' → Rel K mg wd r' g H' → XR K mg r' H' x cls dx → E cls dx H'
  | .bad => False
theorem PostS.ext {K : PySem.W.Frag} {mg : Str → Option Value} {wd : World} {E : XK} {r r1 : List Addr} {H H1 : Hp} {m : RS} {D : Ends} (h : PostS K mg wd E r H m D) (x : Ext r H r1 H1) : PostS K mg wd E r1 H1 m D := by
  cases m with
  | ok z g =>
    obtain ⟨e', f⟩ := z
    cases f with
    | nx => exact fun r' σ' H' y R q => h r' σ' H' (x.trans y) R q
    | rt d => exact fun r' v H' y R q => h r' v H' (x.trans y) R q
  | exc e g => exact fun r' H' c d y R q => h r' H' c d (x.trans y) R q
  | bad => exact h
def LS (X : L2.Cx) (E : XK) (m : Env → G → RS) : TS := fun D σ H => ∃ (r : List Addr) (g : G) (e : Env), Rel X.K X.mg X.w r g H ∧ ER X.K r H e σ ∧ PostS X.K X.mg X.w E r H (m e g) D
/-- what a def's body stands in -/
structure XS (X : L2.Cx) (ck : Arguments → List Stmt → Scope → FDef → Bool) (c : Cx) (N : List String) (sc : Scope) (E : XK) : Prop where
  o : XOk X ck c N sc fun _ => E
  tg : TgOk X sc
  kf : sc.kind = .function
  po : PassesOwn (model X.prog X.w) X.A X.env X.xe
  tk : Takes X fun cls d _ H => E cls d H
  hs : X.stack = X.env :: X.outer
  hf : X.env.frame = some X.env.locals
section
variable {X : L2.Cx} {ck : Arguments → List Stmt → Scope → FDef → Bool} {c : Cx} {N : List String} {sc : Scope} {E : XK} {r : List Addr} {H : Hp} {g : G} {Dn : Ends} {σ : L2.St} {e : Env}
abbrev kE (E : XK) : L2.St → XK := fun _ => E
theorem LE.bindS {m : Env → G → Uk.R D} (R : Rel X.K X.mg X.w r g H) (er : ER X.K r H e σ) {k : D → G → RS} (hp : PostS X.K X.mg X.w E r H ((m e g).bind k) Dn) {Q' : VK}
    (next : ∀ (r1 : List Addr) (g1 : G) (H1 : Hp) (d : D) (v : V), Ext r H r1 H1 → Rel X.K X.mg X.w r1 g1 H1 → ER X.K r1 H1 e σ → VR X.K r1 H1 d v → PostS X.K X.mg X.w E r1 H1 (k d g1) Dn → Q' v H1) : LE X (kE E) m σ H Q' := by
  refine ⟨r, g, e, R, er, ?_⟩
  cases hm : m e g with
  | ok d g1 =>
    rw [hm] at hp
    have hp : PostS X.K X.mg X.w E r H (k d g1) Dn := hp
    exact fun r' v H' x R' q => next r' g1 H' d v x R' (er.mono x) q (hp.ext x)
  | exc y g1 => rw [hm] at hp; exact hp
  | bad => rw [hm] at hp; exact hp.elim
theorem LT.bindS {m : Env → G → Uk.R D} (R : Rel X.K X.mg X.w r g H) (er : ER X.K r H e σ) {k : D → G → RS} (hp : PostS X.K X.mg X.w E r H ((m e g).bind k) Dn) {Q' : Bool → Hp → Prop} (hb : ∀ d g1, k d g1 ≠ .bad → ∃ b, d = .bl b)
    (next : ∀ (r1 : List Addr) (g1 : G) (H1 : Hp) (b : Bool), Ext r H r1 H1 → Rel X.K X.mg X.w r1 g1 H1 → ER X.K r1 H1 e σ → PostS X.K X.mg X.w E r1 H1 (k (.bl b) g1) Dn → Q' b H1) : LT X (kE E) m σ H Q' := by
  refine LE.bindS R er hp fun r1 g1 H1 d v x R1 er1 q hp => ?_
  have nb : k d g1 ≠ .bad := fun z => by rw [z] at hp; exact hp
  obtain ⟨b, rfl⟩ := hb d g1 nb
  exact ⟨b, q.bl_inv, next r1 g1 H1 b x R1 er1 hp⟩
theorem LI.bindS {m : Env → G → Uk.R (Nat × Wk)} (R : Rel X.K X.mg X.w r g H) (er : ER X.K r H e σ) {k : Nat × Wk → G → RS} (hp : PostS X.K X.mg X.w E r H ((m e g).bind k) Dn) {Rr : L2.It → Hp → Prop}
    (next : ∀ (r1 : List Addr) (g1 : G) (H1 : Hp) (w : Nat × Wk) (J : L2.It), Ext r H r1 H1 → Rel X.K X.mg X.w r1 g1 H1 → ER X.K r1 H1 e σ → ItOk X.K X.mg X.w r1 H1 J w.2 w.1 → PostS X.K X.mg X.w E r1 H1 (k w g1) Dn → Rr J H1) : LI X (kE E) m σ H Rr := by
  refine ⟨r, g, e, R, er, ?_⟩
  cases hm : m e g with
  | ok d g1 =>
    rw [hm] at hp
    have hp : PostS X.K X.mg X.w E r H (k d g1) Dn := hp
    exact fun r' H' J x R' q => next r' g1 H' d J x R' (er.mono x) q (hp.ext x)
  | exc y g1 => rw [hm] at hp; exact hp
  | bad => rw [hm] at hp; exact hp.elim
theorem PostS.nx {e' : Env} (h : PostS X.K X.mg X.w E r H (.ok (e', .nx) g) Dn) (R : Rel X.K X.mg X.w r g H) (er : ER X.K r H e' σ) : Dn.nx σ H := h r σ H (.refl _ _) R er
/-! ### name = e -/
/-- does the model take the road of a comprehension stored at once -/
def swB (sc : Scope) (p : PySem.Expr) (x : Str) (py : Pos) : Bool := match p with
  | .ListComp _ _ s pos => decide (sc.names.lookup x = some .local) && (py.line == pos.line) && !(s.names.any fun (n, k) => n == x && (k == .local || k == .cell))
  | _ => false
def isComp (p : PySem.Expr) : Bool := match p with
  | .ListComp _ _ _ _ => true
  | .SetComp _ _ _ _ => true
  | .DictComp _ _ _ _ _ => true
  | _ => false
theorem sw_plain {p : PySem.Expr} {t : Option PySem.Expr} {l : Nat} {env : PySem.Env} (h : isComp p = false) : swapsWith p t l env = pure false := by
  cases p <;> first | rfl | cases h
theorem sole_plain {p t : PySem.Expr} {l : Nat} {env : PySem.Env} (h : isComp p = false) : swapsWithSole [t] p l env = pure false := by
  cases p <;> first | rfl | cases h
theorem sw_att {p o : PySem.Expr} {f : Str} {pos : Pos} {l : Nat} {env : PySem.Env} : swapsWith p (some (.Attribute o f pos)) l env = pure false := by
  cases p <;> rfl
theorem sw_sub {p o i : PySem.Expr} {pos : Pos} {l : Nat} {env : PySem.Env} : swapsWithSole [.Subscript o i pos] p l env = pure false := by
  cases p <;> rfl
theorem sw_tup {p : PySem.Expr} {ts : List PySem.Expr} {k : Nat} {pos : Pos} {l : Nat} {env : PySem.Env} : swapsWithSole [.Tuple ts k pos] p l env = pure false := by
  cases p <;> rfl
theorem sw_false {p q : PySem.Expr} {gs : List Comprehension} {s : Scope} {pos py : Pos} {x : Str} {l : Nat} {env : PySem.Env} (hp : p = .ListComp q gs s pos) (hk : env.scope.kind = .function) (h : swB env.scope p x py = false) : swapsWith p (some (.Name x py)) l env = pure false := by
  subst hp
  have hb : env.blockKind = .function := by unfold Env.blockKind; rw [hk]; rfl
  have h : (decide (env.scope.names.lookup x = some .local) && (py.line == pos.line) && !(s.names.any fun (n, k) => n == x && (k == .local || k == .cell))) = false := h
  have e1 : (env.kindOf x == some NameKind.local) = decide (env.scope.names.lookup x = some .local) := by
    unfold Env.kindOf
    cases env.scope.names.lookup x with
    | none => rfl
    | some k => cases k <;> rfl
  unfold swapsWith
  simp only [hb, Expr.pos, e1]
  have e2 : (ScopeKind.function == ScopeKind.function) = true := rfl
  simp only [e2, Bool.true_and]
  rw [h]
theorem sw_true' {q : PySem.Expr} {gs : List Comprehension} {s : Scope} {pos py : Pos} {x : Str} {l : Nat} {env : PySem.Env} (hk : env.scope.kind = .function) (h : swB env.scope (.ListComp q gs s pos) x py = true) : env.scope.names.lookup x = some .local ∧ swapsWith (.ListComp q gs s pos) (some (.Name x py)) l env = pure true := by
  have h : (decide (env.scope.names.lookup x = some .local) && (py.line == pos.line) && !(s.names.any fun (n, k) => n == x && (k == .local || k == .cell))) = true := h
  simp only [Bool.and_eq_true, Bool.not_eq_true'] at h
  obtain ⟨⟨h1, h2⟩, h3⟩ := h
  have h1 := of_decide_eq_true h1
  exact ⟨h1, sw_true hk h1 h2 h3⟩
theorem asg_reads {i : Nat} {m : Env → G → Uk.R D} {σ : L2.St} {H : Hp} {Dn : Ends} (h : LS X E (fun e g => (m e g).bind fun x g => .ok (e.set i (some x), .nx) g) Dn σ H) : tAsg (LE X (kE E) m) (gName i) Dn σ H := by
  obtain ⟨r, g, e, R, er, hp⟩ := h
  exact LE.bindS R er hp fun r1 g1 H1 d v x R1 er1 q hp => PostS.nx hp R1 (er1.set i q)
theorem ok_asg (S : XS X ck c N sc E) {i : Nat} {x : Str} {py pos : Pos} {p : PySem.Expr} {m : Env → G → Uk.R D} (ht : tgB N sc i x = true) (hsw : swapsWith p (some (.Name x py)) pos.line X.env = pure false) (h : PE X p (LE X (kE E) m)) :
    PS X (.Assign [.Name x py] p pos) (LS X E fun e g => (m e g).bind fun x g => .ok (e.set i (some x), .nx) g) := by
  obtain ⟨h1, h2, h3⟩ := tgB_get S.o.nm S.tg ht
  exact ⟨fun pins s σ H Dn I q => (ps_set S.o.nd h1 h2 h hsw h3).run pins s σ H Dn I (asg_reads q)⟩
/-- name = [..] -/
theorem ok_asgC (S : XS X ck c N sc E) {i : Nat} {x : Str} {py spos : Pos} {pt pi p : PySem.Expr} {ifs : List PySem.Expr} {scope : Scope} {pos : Pos} {vs : List Nat} {tg : Tg} {mi : Env → G → Uk.R (Nat × Wk)} {mc me : Env → G → Uk.R D} (ht : tgB N sc i x = true)
    (hv : (ownOf N vs).map (·.2) = vs) (hb : blkC (N.map sS) sc scope (ownOf N vs) = true) (htg : ckT N scope tg pt = true) (hin : ∀ i ∈ tgIx tg, i ∈ vs) (hi : PI X pt pi (LI X (kE E) mi)) (hf : ∀ x, foldedSetIterable pi X.env x = pure x)
    (hc : ∀ (Y : L2.Cx), XOk Y ck c N (relS scope sc) E0' → PTs Y ifs (LT Y E0' mc)) (he : ∀ (Y : L2.Cx), XOk Y ck c N (relS scope sc) E0' → PE Y p (LE Y E0' me))
    (hyl : X.env.scope.names.lookup x = some .local) (hsw : swapsWith (.ListComp p [⟨pt, pi, ifs, 0⟩] scope pos) (some (.Name x py)) spos.line X.env = pure true) :
    PS X (.Assign [.Name x py] (.ListComp p [⟨pt, pi, ifs, 0⟩] scope pos) spos) (LS X E fun e g => (compD mi mc me tg vs e g).bind fun x g => .ok (e.set i (some x), .nx) g) := by
  obtain ⟨h1, h2, h3⟩ := tgB_get S.o.nm S.tg ht
  have ok : BlkOk X.N X.env.scope scope (ownOf N vs) := by
    rw [S.o.nm, S.o.sc]
    exact blkOk_by hb
  have P := ps_setLc (elt := p) (tg := pt) (iter := pi) (ifs := ifs) (pos := pos) (spos := spos) (py := py) (wi := LI X (kE E) mi) (g := GD X tg) (tt := LT X E0' mc) (te := LE X E0' me) S.o.calm S.o.nd h1 hyl hsw hi ok
    (fun s H C cl fp => pg_tg (X := X.blk s H scope (compEnvC scope cl C X.env) fp) S.o.calm S.o.nm S.o.nd (TgOk.blk S.o s H scope cl C fp) htg)
    (fun s H C cl fp => hc _ (S.o.blk s H scope cl C fp)) (fun s H C cl fp => he _ (S.o.blk s H scope cl C fp)) hf
  rw [hv] at P
  refine ⟨fun pins s σ H Dn I q => P.run pins s σ H Dn I ?_⟩
  obtain ⟨r, g, e, R, er, hp⟩ := asg_reads q
  exact lc_reads rfl rfl rfl hin (fun _ _ _ _ h => h) (fun _ _ _ h => h) (fun _ _ _ h => h) R er hp
/-! ### o.f = e -/
theorem ok_fld (S : XS X ck c N sc E) {f : String} {p1 pos : Pos} {po p : PySem.Expr} {mo m : Env → G → Uk.R D} (ho : PE X po (LE X (kE E) mo)) (h : PE X p (LE X (kE E) m)) :
    PS X (.Assign [.Attribute po (sS f) p1] p pos) (LS X E fun e g => (m e g).bind fun x g => (mo e g).bind fun y g => (setFld c.P y f x g).bind fun _ g => .ok (e, .nx) g) := by
  refine ⟨fun pins s σ H Dn I ⟨r, g, e, R, er, hp⟩ => (ps_fld ho h sw_att).run pins s σ H Dn I (LE.bindS R er hp fun r1 g1 H1 d v x R1 er1 q hp => LE.bindS R1 er1 hp fun r2 g2 H2 y w x2 R2 er2 q2 hp => ?_)⟩
  cases y with
  | ref a =>
    obtain ⟨p, ep, rfl⟩ := q2.ref_inv
    obtain ⟨o, ho, oo⟩ := R2.get ep
    unfold setFld at hp
    dsimp only at hp
    rw [ho] at hp
    cases o with
    | ins k fs =>
      dsimp only at hp
      split at hp
      · rename_i hl
        obtain ⟨C, dx, ps, h0, h1, h2⟩ := oo
        obtain ⟨C2, hC2, ca⟩ := S.o.gf.cls k hl.2.1
        rw [h0] at hC2
        cases hC2
        refine ⟨p, C, dx, ps, rfl, h1, ca.cl, ca.fld f hl.2.2, by rw [← h2.length]; exact hl.1, ?_⟩
        have hp : PostS X.K X.mg X.w E r2 H2 (.ok (e, .nx) (g2.set a (.ins k (Uk.putF f d fs)))) Dn := hp
        have ex : Ext r2 H2 r2 (upd H2 p (.ins C dx (L2.putF (sS f) v ps))) := .put h1 trivial
        refine hp r2 σ _ ex ?_ (er2.mono ex)
        exact R2.put ep h1 trivial ⟨C, dx, _, h0, upd_same, (putF_rel (VR.mono x2 _ _ q) h2).mono ex⟩
      · exact hp.elim
    | _ => exact hp.elim
  | _ => exact hp.elim
/-! ### o[i] = e -/
theorem asg_sub {o i : PySem.Expr} {pos : Pos} {env : PySem.Env} (h : plainP i = true) : ∀ v, assign (.Subscript o i pos) env v = (do
      let ov ← holding [v] (eval o env)
      let iv ← holding [v, ov] (eval i env)
      standAt pos
      holding [v, ov, iv] (setItem ov iv v)
      release [v, ov, iv] []) := by
  intro v
  cases i <;> first | rfl | exact absurd h Bool.false_ne_true
/-- a place of a list, or of a dict -/
def rSetD (X : L2.Cx) : V → V → V → Hp → (Hp → Prop) → Prop := fun o i v H Q => rSetL o i v H Q ∨ (∃ a H', o = .ref a ∧ DPut H a i v H' ∧ Q H') ∨
  ∃ (r : List Addr) (g : G) (i0 : Nat) (a b : Addr) (kvs : List (D × D)) (k d : D), o = .ref a ∧ i = .ref b ∧ Rel X.K X.mg X.w r g H ∧ r[i0]? = some a ∧ g[i0]? = some (.dT kvs) ∧ kvs.length < sizeLine ∧ k.keyT = true ∧ VR X.K r H k (.ref b) ∧ VR X.K r H d v ∧ ∀ H', Ext r H r H' → Rel X.K X.mg X.w r (g.set i0 (.dT (putD k d kvs))) H' → Q H'
theorem set_any {X : L2.Cx} (hu : X.A.units + 200 < cLine) : PSet X (rSetD X) := by
  intro pins s σ H o i v ov iv u Q I ro ri rv h
  rcases h with h | ⟨a, H', rfl, g, q⟩ | ⟨r, g, i0, a, b, kvs, k, d, rfl, rfl, R, e1, e2, hz, hk, q1, q2, q⟩
  · exact set_list pins s σ H o i v ov iv u Q I ro ri rv h
  · obtain rfl : ov = Value.ref a := ro
    exact d_setItem (by omega) I g ri rv fun s' I' => ⟨H', I', q⟩
  · obtain rfl : ov = Value.ref a := ro
    obtain rfl : iv = Value.ref b := ri
    exact t_set hu I R e1 e2 hz hk q1 q2 rv fun H' s' I' x R' => ⟨H', I', q H' x R'⟩
theorem ok_sub (S : XS X ck c N sc E) {p1 pos : Pos} {po pi p : PySem.Expr} {mo mi m : Env → G → Uk.R D} (hpl : plainP pi = true) (ho : PE X po (LE X (kE E) mo)) (hi : PE X pi (LE X (kE E) mi)) (h : PE X p (LE X (kE E) m)) :
    PS X (.Assign [.Subscript po pi p1] p pos) (LS X E fun e g => (m e g).bind fun x g => (mo e g).bind fun y g => (mi e g).bind fun z g => (setSub y z x g).bind fun _ g => .ok (e, .nx) g) := by
  refine ⟨fun pins s σ H Dn I ⟨r, g, e, R, er, hp⟩ => (ps_asg h (pg_sub ho hi (set_any (by have := S.o.units; omega)) (asg_sub hpl)) sw_sub).run pins s σ H Dn I (LE.bindS R er hp fun r1 g1 H1 d v x R1 er1 q hp => LE.bindS R1 er1 hp fun r2 g2 H2 y w x2 R2 er2 q2 hp => LE.bindS R2 er2 hp fun r3 g3 H3 z u x3 R3 er3 q3 hp => ?_)⟩
  have q2 := VR.mono x3 _ _ q2
  cases y with
  | ref a =>
    obtain ⟨p, ep, rfl⟩ := q2.ref_inv
    obtain ⟨o, ho, oo⟩ := R3.get ep
    unfold setSub at hp
    dsimp only at hp
    rw [ho] at hp
    cases o with
    | lst xs =>
      cases z with
      | int k =>
        dsimp only at hp
        cases hj : sIx xs.length k with
        | none => rw [hj] at hp; exact hp.elim
        | some j =>
          rw [hj] at hp
          obtain ⟨vs, h1, h2⟩ := oo
          have ex : Ext r3 H3 r3 (upd H3 p (.lst (vs.set j v))) := .put h1 trivial
          refine .inl ⟨p, vs, k, j, rfl, q3.int_inv, h1, by rw [h2.length]; exact hj, ?_⟩
          have hp : PostS X.K X.mg X.w E r3 H3 (.ok (e, .nx) (g3.set a (.lst (xs.set j d)))) Dn := hp
          refine hp r3 σ _ ex ?_ (er3.mono ex)
          exact R3.put ep h1 trivial (lst_put (xs := xs) h1 (h2.set j (VR.mono (x2.trans x3) _ _ q)))
      | _ => exact hp.elim
    | dK kvs =>
      have hk : ∃ kk, keyOf z = some kk ∧ kvs.length < line ∧ PostS X.K X.mg X.w E r3 H3 (.ok (e, .nx) (g3.set a (.dK (putD z d kvs)))) Dn := by
        cases z <;> first
          | exact hp.elim
          | (dsimp only at hp
             split at hp
             · exact ⟨_, rfl, by assumption, hp⟩
             · exact hp.elim)
      obtain ⟨kk, hk, hl, hp⟩ := hk
      obtain ⟨ps, h1, h2⟩ := oo
      have ev := key_val hk q3
      subst ev
      have ex : Ext r3 H3 r3 (upd H3 p (.dK (L2.putK ps kk v))) := .put h1 trivial
      refine .inr (.inl ⟨p, _, rfl, DPut.k h1 (by rw [← h2.length, ← line_eq]; exact hl), ?_⟩)
      refine hp r3 σ _ ex ?_ (er3.mono ex)
      exact R3.put ep h1 trivial ⟨_, upd_same, (h2.put hk (VR.mono (x2.trans x3) _ _ q)).mono ex⟩
    | dT kvs =>
      cases z with
      | tup ks =>
        dsimp only at hp
        split at hp
        · rename_i hk
          rw [Bool.and_eq_true] at hk
          obtain ⟨b, vs', rfl, _, _⟩ := id q3.tup_inv
          refine .inr (.inr ⟨r3, g3, a, p, b, kvs, .tup ks, d, rfl, rfl, R3, ep, ho, by rw [← line_eq]; exact of_decide_eq_true hk.2, hk.1, q3, VR.mono (x2.trans x3) _ _ q, fun H' x' R' => ?_⟩)
          exact hp r3 σ _ x' R' (er3.mono x')
        · exact hp.elim
      | _ => exact hp.elim
    | lk _ => cases z <;> exact hp.elim
    | ins _ _ => cases z <;> exact hp.elim
  | _ => cases z <;> exact hp.elim
/-! ### a, b = e -/
def isTup (p : PySem.Expr) : Bool := match p with
  | .Tuple _ _ _ => true
  | _ => false
theorem sw_stores {ps : List PySem.Expr} {k : Nat} {tpos : Pos} {p : PySem.Expr} {env : PySem.Env} (h : isTup p = false) : swappedStores [.Tuple ps k tpos] p env = pure none := by
  cases p <;> first | rfl | cases h
theorem ok_unp (S : XS X ck c N sc E) {l : List Nat} {ps : List PySem.Expr} {k : Nat} {tpos pos : Pos} {p : PySem.Expr} {m : Env → G → Uk.R D} (ht : ckTs N sc l ps = true) (hst : isTup p = false) (h : PE X p (LE X (kE E) m)) :
    PS X (.Assign [.Tuple ps k tpos] p pos) (LS X E fun e g => (m e g).bind fun x g => match x with
    | .tup ds => match setAll e l ds with
      | some δ => .ok (δ, .nx) g
      | none => .bad
    | _ => .bad) := by
  have G1 := pg_tg (t := .many l) (p := .Tuple ps k tpos) S.o.calm S.o.nm S.o.nd S.tg ht
  refine ⟨fun pins s σ H Dn I ⟨r, g, e, R, er, hp⟩ => (ps_asg h G1 sw_tup (sw_stores hst)).run pins s σ H Dn I (LE.bindS R er hp fun r1 g1 H1 d v x R1 er1 q hp => ?_)⟩
  cases d with
  | tup ds =>
    dsimp only at hp
    cases hz : setAll e l ds with
    | none => rw [hz] at hp; exact hp.elim
    | some e' =>
      rw [hz] at hp
      exact ⟨r1, g1, .tup ds, e, e', R1, er1, q, hz, fun us hl er2 => PostS.nx hp R1 er2⟩
  | _ => exact hp.elim
/-! ### a, b = x, y -/
def parB (sc : Scope) (x y : Str) (px py : Pos) (pa pb : PySem.Expr) : Bool := decide (sc.names.lookup x = some .local) && decide (sc.names.lookup y = some .local) && (py.line == px.line) && !(x == y) && !(foldedForSure 8 pa && foldedForSure 8 pb) && !(constantsAlone 8 pa && constantsAlone 8 pb) && plainP pa && plainP pb
theorem sw_par {env : PySem.Env} {x y : Str} {px py pt pt2 : Pos} {k k2 : Nat} {pa pb : PySem.Expr} (hk : env.scope.kind = .function) (h : parB env.scope x y px py pa pb = true) : swappedStores [.Tuple [.Name x px, .Name y py] k pt] (.Tuple [pa, pb] k2 pt2) env = pure (some [x, y]) := by
  unfold parB at h
  simp only [Bool.and_eq_true, Bool.not_eq_true'] at h
  obtain ⟨⟨⟨⟨⟨⟨⟨h1, h2⟩, h3⟩, h4⟩, h5⟩, h6⟩, h7⟩, h8⟩ := h
  have hb : env.blockKind = .function := by unfold Env.blockKind; rw [hk]; rfl
  have k1 : env.kindOf x = some .local := of_decide_eq_true h1
  have k2 : env.kindOf y = some .local := of_decide_eq_true h2
  have s1 : ∀ {p : PySem.Expr}, plainP p = true → (match p with | .Starred _ _ => true | _ => false) = false := fun {p} hp => by
    cases p <;> first | rfl | cases hp
  unfold swappedStores
  have l1 : (env.kindOf x == some NameKind.local) = true := by rw [k1]; rfl
  have l2 : (env.kindOf y == some NameKind.local) = true := by rw [k2]; rfl
  have n2 : ([x, y] : List Str).eraseDups = [x, y] := by
    have h4' : (y == x) = false := by
      have : x ≠ y := by simpa using h4
      simpa using Ne.symm this
    simp [List.eraseDups_cons, h4']
  have u1 : (px.line == px.line) = true := by simp
  simp only [List.length_cons, List.length_nil, hb, List.any_cons, List.any_nil]
  rw [if_neg (by decide), if_neg (fun hh => by
    rw [Bool.or_eq_true, Bool.or_eq_true] at hh
    rcases hh with hh | hh | hh
    · cases pa <;> first | exact absurd hh Bool.false_ne_true | cases h7
    · cases pb <;> first | exact absurd hh Bool.false_ne_true | cases h8
    · exact absurd hh Bool.false_ne_true)]
  simp only [List.filterMap_cons, List.filterMap_nil, l1, l2, List.head?_cons, Option.map_some, Option.getD_some, PySem.Expr.pos, h3, u1, Bool.and_self, if_true, n2, List.all_cons, List.all_nil, Bool.and_true, h5, h6, List.length_cons, List.length_nil]
  rfl
theorem ok_par (S : XS X ck c N sc E) {i j : Nat} {x y : Str} {px py pt pt2 pos : Pos} {k k2 : Nat} {pa pb : PySem.Expr} {ma mb : Env → G → Uk.R D} (hi : ckN N i x = true) (hj : ckN N j y = true) (hij : i ≠ j) (hb : parB sc x y px py pa pb = true) (ha : PE X pa (LE X (kE E) ma)) (hb2 : PE X pb (LE X (kE E) mb)) :
    PS X (.Assign [.Tuple [.Name x px, .Name y py] k pt] (.Tuple [pa, pb] k2 pt2) pos) (LS X E fun e g => (ma e g).bind fun x g => (mb e g).bind fun y g => .ok ((e.set i (some x)).set j (some y), .nx) g) := by
  have get : ∀ {i : Nat} {x : Str}, ckN N i x = true → X.N[i]? = some x := fun {i x} h => by
    unfold ckN at h
    split at h
    · rename_i s hs
      rw [S.o.nm, List.getElem?_map, hs, ← of_decide_eq_true h]
      rfl
    · cases h
  have hb' : parB X.env.scope x y px py pa pb = true := by rw [S.o.sc]; exact hb
  have hs := sw_par (pt := pt) (pt2 := pt2) (k := k) (k2 := k2) (by rw [S.o.sc]; exact S.kf) hb'
  unfold parB at hb'
  simp only [Bool.and_eq_true, Bool.not_eq_true'] at hb'
  obtain ⟨⟨⟨⟨⟨⟨⟨h1, h2⟩, _⟩, _⟩, _⟩, _⟩, h7⟩, h8⟩ := hb'
  have A2 := pa_cons ha (pa_cons hb2 pa_nil (star_plain h8)) (star_plain h7)
  refine ⟨fun pins s σ H Dn I ⟨r, g, e, R, er, hp⟩ => (ps_par (kt := k) (k2 := k2) S.o.calm S.o.nd (get hi) (get hj) hij (of_decide_eq_true h1) (of_decide_eq_true h2) A2 hs rfl).run pins s σ H Dn I ?_⟩
  refine LE.bindS R er hp fun r1 g1 H1 d v x1 R1 er1 q1 hp => LE.bindS R1 er1 hp fun r2 g2 H2 y w x2 R2 er2 q2 hp => ?_
  exact ⟨v, w, rfl, PostS.nx hp R2 ((er2.set i (VR.mono x2 _ _ q1)).set j q2)⟩
/-! ### if, return, .. -/
theorem ok_if {pt : PySem.Expr} {A B : List Stmt} {pos : Pos} {mt : Env → G → Uk.R D} {ma mb : Env → G → RS} (ht : PT X pt (LT X (kE E) mt)) (ha : PSs X A (LS X E ma)) (hb : PSs X B (LS X E mb)) : PS X (.If pt A B pos) (LS X E fun e g => (mt e g).bind fun x g => match x with
    | .bl true => ma e g
    | .bl false => mb e g
    | _ => .bad) := by
  refine ⟨fun pins s σ H Dn I ⟨r, g, e, R, er, hp⟩ => (ps_if ht ha hb).run pins s σ H Dn I (LT.bindS R er hp (fun d g1 hk => ?_) fun r1 g1 H1 b x R1 er1 hp => ?_)⟩
  · cases d with
    | bl b => exact ⟨b, rfl⟩
    | _ => exact absurd rfl hk
  · cases b with
    | true => exact ⟨r1, g1, e, R1, er1, hp⟩
    | false => exact ⟨r1, g1, e, R1, er1, hp⟩
theorem ok_ret {p : PySem.Expr} {pos : Pos} {m : Env → G → Uk.R D} (h : PE X p (LE X (kE E) m)) : PS X (.Return (some p) pos) (LS X E fun e g => (m e g).bind fun x g => .ok (e, .rt x) g) :=
  ⟨fun pins s σ H Dn I ⟨r, g, e, R, er, hp⟩ => (ps_ret h).run pins s σ H Dn I (LE.bindS R er hp fun r1 g1 H1 d v x R1 er1 q hp => hp r1 v H1 (.refl _ _) R1 q)⟩
theorem ok_retN {pos : Pos} : PS X (.Return none pos) (LS X E fun e g => .ok (e, .rt .non) g) := ⟨fun pins s σ H Dn I ⟨r, g, e, R, er, hp⟩ => ps_retN.run pins s σ H Dn I (hp r .non H (.refl _ _) R .non)⟩
theorem ok_ex {p : PySem.Expr} {pos : Pos} {m : Env → G → Uk.R D} (hsw : isComp p = false) (h : PE X p (LE X (kE E) m)) : PS X (.Expr p pos) (LS X E fun e g => (m e g).bind fun _ g => .ok (e, .nx) g) :=
  ⟨fun pins s σ H Dn I ⟨r, g, e, R, er, hp⟩ => (ps_expr h (sw_plain hsw)).run pins s σ H Dn I (LE.bindS R er hp fun r1 g1 H1 d v x R1 er1 q hp => PostS.nx hp R1 er1)⟩
theorem ok_pass {pos : Pos} : PS X (.Pass pos) (LS X E fun e g => .ok (e, .nx) g) := ⟨fun pins s σ H Dn I ⟨r, g, e, R, er, hp⟩ => ps_pass.run pins s σ H Dn I (PostS.nx hp R er)⟩
/-! ### suites -/
theorem oks_nil : PSs X [] (LS X E fun e g => .ok (e, .nx) g) := ⟨fun pins s σ H Dn I ⟨r, g, e, R, er, hp⟩ => pss_nil.run pins s σ H Dn I (PostS.nx hp R er)⟩
def seqS (m1 m2 : Env → G → RS) (e : Env) (g : G) : RS := (m1 e g).bind fun z g => match z with
    | (δ, .nx) => m2 δ g
    | z => .ok z g
theorem oks_cons {st : Stmt} {rest : List Stmt} {m1 m2 : Env → G → RS} (h1 : PS X st (LS X E m1)) (h2 : PSs X rest (LS X E m2)) : PSs X (st :: rest) (LS X E (seqS m1 m2)) := by
  refine ⟨fun pins s σ H Dn I ⟨r, g, e, R, er, hp⟩ => (pss_cons h1 h2).run pins s σ H Dn I ⟨r, g, e, R, er, ?_⟩⟩
  unfold seqS at hp
  cases hm : m1 e g with
  | bad => rw [hm] at hp; exact hp.elim
  | exc x g1 => rw [hm] at hp; exact hp
  | ok z g1 =>
    rw [hm] at hp
    obtain ⟨e', f⟩ := z
    cases f with
    | nx =>
      have hp : PostS X.K X.mg X.w E r H (m2 e' g1) Dn := hp
      exact fun r' σ' H' x R' er' => ⟨r', g1, e', R', er', hp.ext x⟩
    | rt d =>
      have hp : PostS X.K X.mg X.w E r H (.ok (e', .rt d) g1) Dn := hp
      exact fun r' v H' x R' q => hp r' v H' x R' q
/-! ### loops -/
theorem ok_for (S : XS X ck c N sc E) {t : Tg} {pt pi : PySem.Expr} {body : List Stmt} {pos : Pos} {mi : Env → G → Uk.R (Nat × Wk)} {mb : Env → G → RS} (ht : ckT N sc t pt = true) (hi : PI X pt pi (LI X (kE E) mi)) (hf : ∀ x, foldedSetIterable pi X.env x = pure x) (hb : PSs X body (LS X E mb)) :
    PS X (.For pt pi body [] pos) (LS X E fun e g => (mi e g).bind fun w g => forL w.2 w.1 t mb w.1 0 e g) := by
  have G1 := pg_tg S.o.calm S.o.nm S.o.nd S.tg ht
  refine ⟨fun pins s σ H Dn I ⟨r, g, e, R, er, hp⟩ => (ps_for S.po S.o.calm hi G1 hb hf).run pins s σ H Dn I (LI.bindS R er hp fun r1 g1 H1 w J x R1 er1 io hp => ?_)⟩
  refine ⟨fun i m σ H => ∃ (r2 : List Addr) (g2 : G) (e2 : Env), Ext r1 H1 r2 H ∧ Rel X.K X.mg X.w r2 g2 H ∧ ER X.K r2 H e2 σ ∧ PostS X.K X.mg X.w E r2 H (forL w.2 w.1 t mb m i e2 g2) Dn, ⟨w.1, r1, g1, e, .refl _ _, R1, er1, hp⟩, ?_⟩
  rintro i m σ H ⟨r2, g2, e2, x2, R2, er2, hp2⟩
  cases m with
  | zero =>
    unfold forL at hp2
    split at hp2
    · rename_i hit
      exact .inl ⟨io.stop i r2 g2 H x2 R2 hit, PostS.nx hp2 R2 er2⟩
    · exact hp2.elim
  | succ m =>
    unfold forL at hp2
    split at hp2
    · rename_i d hit
      obtain ⟨go, yl⟩ := io.go i r2 g2 H d x2 R2 hit
      refine .inr ⟨go, fun σ' H' => ∃ (r2 : List Addr) (g2 : G) (e2 : Env), Ext r1 H1 r2 H' ∧ Rel X.K X.mg X.w r2 g2 H' ∧ ER X.K r2 H' e2 σ' ∧ PostS X.K X.mg X.w E r2 H' (forL w.2 w.1 t mb m (i + 1) e2 g2) Dn, fun σ' H' h => ⟨m, Nat.lt_succ_self m, h⟩, fun v H' hy => ?_⟩
      obtain ⟨x3, R3, q3⟩ := yl v H' hy
      cases hbd : bindT t d e2 with
      | none => rw [hbd] at hp2; exact hp2.elim
      | some e3 =>
        rw [hbd] at hp2
        refine ⟨r2, g2, d, e2, e3, R3, er2.mono x3, q3, hbd, fun us hl er4 => ⟨r2, g2, e3, R3, er4, ?_⟩⟩
        have hp2 : PostS X.K X.mg X.w E r2 H ((mb e3 g2).bind _) Dn := hp2
        cases hm : mb e3 g2 with
        | bad => rw [hm] at hp2; exact hp2.elim
        | exc y g4 =>
          rw [hm] at hp2
          exact fun r' H' c d y R q => hp2 r' H' c d (x3.trans y) R q
        | ok z g4 =>
          rw [hm] at hp2
          obtain ⟨e4, f⟩ := z
          cases f with
          | nx =>
            have hp2 : PostS X.K X.mg X.w E r2 H (forL w.2 w.1 t mb m (i + 1) e4 g4) Dn := hp2
            exact fun r' σ' H' y R' er' => ⟨r', g4, e4, x2.trans (x3.trans y), R', er', hp2.ext (x3.trans y)⟩
          | rt d4 =>
            have hp2 : PostS X.K X.mg X.w E r2 H (.ok (e4, .rt d4) g4) Dn := hp2
            exact fun r' v H' y R' q => hp2 r' v H' (x3.trans y) R' q
    · exact hp2.elim
theorem ok_while (S : XS X ck c N sc E) {pt : PySem.Expr} {body : List Stmt} {pos : Pos} {mt : Env → G → Uk.R D} {mb : Env → G → RS} (ht : PT X pt (LT X (kE E) mt)) (hb : PSs X body (LS X E mb)) : PS X (.While pt body [] pos) (LS X E fun e g => whileL mt mb most e g) := by
  refine ⟨fun pins s σ H Dn I ⟨r, g, e, R, er, hp⟩ => (ps_while S.po ht hb).run pins s σ H Dn I ?_⟩
  refine ⟨fun m σ H => ∃ (r2 : List Addr) (g2 : G) (e2 : Env), Rel X.K X.mg X.w r2 g2 H ∧ ER X.K r2 H e2 σ ∧ PostS X.K X.mg X.w E r2 H (whileL mt mb m e2 g2) Dn, ⟨most, r, g, e, R, er, hp⟩, ?_⟩
  rintro m σ H ⟨r2, g2, e2, R2, er2, hp2⟩
  cases m with
  | zero => exact hp2.elim
  | succ m =>
    unfold whileL at hp2
    refine LT.bindS R2 er2 hp2 (fun d g1 hk => ?_) fun r3 g3 H3 b x3 R3 er3 hp3 => ?_
    · cases d with
      | bl b => exact ⟨b, rfl⟩
      | _ => exact absurd rfl hk
    · cases b with
      | false =>
        rw [if_neg (by simp)]
        exact PostS.nx hp3 R3 er3
      | true =>
        rw [if_pos rfl]
        refine ⟨fun σ' H' => ∃ (r2 : List Addr) (g2 : G) (e2 : Env), Rel X.K X.mg X.w r2 g2 H' ∧ ER X.K r2 H' e2 σ' ∧ PostS X.K X.mg X.w E r2 H' (whileL mt mb m e2 g2) Dn, fun σ' H' h => ⟨m, Nat.lt_succ_self m, h⟩, r3, g3, e2, R3, er3, ?_⟩
        have hp3 : PostS X.K X.mg X.w E r3 H3 ((mb e2 g3).bind _) Dn := hp3
        cases hm : mb e2 g3 with
        | bad => rw [hm] at hp3; exact hp3.elim
        | exc y g4 => rw [hm] at hp3; exact hp3
        | ok z g4 =>
          rw [hm] at hp3
          obtain ⟨e4, f⟩ := z
          cases f with
          | nx =>
            have hp3 : PostS X.K X.mg X.w E r3 H3 (whileL mt mb m e4 g4) Dn := hp3
            exact fun r' σ' H' y R' er' => ⟨r', g4, e4, R', er', hp3.ext y⟩
          | rt d4 =>
            have hp3 : PostS X.K X.mg X.w E r3 H3 (.ok (e4, .rt d4) g4) Dn := hp3
            exact fun r' v H' y R' q => hp3 r' v H' y R' q
end
end Uk
end
section
set_option Elab.async false
set_option linter.all false
set_option maxRecDepth 100000
set_option autoImplicit false
set_option maxHeartbeats 1000000
namespace Uk
open PySem PySem.Spec PyProof.Rows L2
/-! ## for k in d, d keyed by tuples -/
/-- the keys of the locked dict at d, in their order -/
def ItD (wd : World) (d : Addr) (o : Obj) (xs : List (NestedKey × Addr × V)) : L2.It :=
  ⟨fun i H => H d = some (.frz o (dtO wd d xs)) ∧ i < xs.length, fun i H x H' => H' = H ∧ ∃ y, xs[i]? = some y ∧ x = .ref y.2.1, fun i H => H d = some (.frz o (dtO wd d xs)) ∧ xs.length ≤ i⟩
section
variable {X : L2.Cx} {pins : List (Addr × Obj)} {s : Shared} {σ : L2.St} {H : Hp} {d : Addr} {o : Obj} {xs : List (NestedKey × Addr × V)}
theorem frzD (I : Inv X pins σ H s) (h : H d = some (.frz o (dtO X.w d xs))) : (d == sysModules) = false ∧ s.heap.get? d = some o ∧ o.ExactDict ∧ ∃ (es : Array DictEntry) (ep : Nat), o.data = .dict es ep ∧ es.size = xs.length ∧ ∀ (i : Nat) (y : NestedKey × Addr × V), xs[i]? = some y → ∃ en : DictEntry, es[i]? = some en ∧ en.key = Value.ref y.2.1 := by
  obtain ⟨hg, ⟨hs, hl, hn, ys, rel, o', es, ep, ho, hx, hd, he⟩, _⟩ := I.hok d _ h
  rw [hg] at ho
  cases ho
  have l1 : es.size = ys.length := by rw [← Array.length_toList, he, List.length_map]
  have l2 : xs.length = ys.length := Paired.length rel
  refine ⟨hs, hg, hx, es, ep, hd, by omega, fun i y e => ?_⟩
  obtain ⟨z, e1, e2⟩ := paired_getL rel e
  refine ⟨⟨z.1.hash X.w, .ref z.2.1, z.2.2⟩, ?_, by rw [e2.2.1]⟩
  rw [← Array.getElem?_toList, he, List.getElem?_map, e1]
  rfl
end
theorem turn_keysD {P : Program} {w : World} {K : PySem.W.Frag} {tg : PySem.Expr} {d : Addr} {o : Obj} {xs : List (NestedKey × Addr × V)} {es : Array DictEntry} {ep : Nat} (it : Addr) (hod : o.data = .dict es ep) : Turn P w K tg (ItD w d o xs) [it] it (fun i h => h.IsKeyIter it d i xs.length ep) where
  mem := by simp
  obj := fun i h st b hb => by
    have e : b = it := by simpa using hb
    subst e
    obtain ⟨oi, e, c, dd⟩ := st
    exact ⟨oi, e, fun v z => by rw [dd] at z; cases z⟩
  keep := fun i h h' st k => st.at fun oi e => k it (by simp) oi e
  item := by
    intro X hP hw hK hc i pins s σ H E I hf st hg
    subst hP hw hK
    obtain ⟨hd, hi⟩ := hg
    obtain ⟨f0, f1, f2, f3, f4, f5⟩ := hf it (by simp)
    obtain ⟨hs, hgd, hx, es', ep', hdt, hsz, ent⟩ := frzD I hd
    obtain ⟨rfl, rfl⟩ := dict_ep hod hdt
    obtain ⟨y, hy⟩ : ∃ y, xs[i]? = some y := ⟨xs[i], List.getElem?_eq_getElem hi⟩
    obtain ⟨en, hen, hkey⟩ := ent i y hy
    refine next_key_item st hgd hdt hsz hen fun h' st' sb => ?_
    have I1 : Inv X pins σ H { s with heap := h' } := I.turned (t' := s.toks) (fun b ob hb e => (sb.2 b hb).trans e) f0 f1 f3 f4 f5
    obtain ⟨oi, e, c, dd⟩ := id st'
    exact ⟨en.key, rfl, go_of (s := { s with heap := h' }) e c dd (by decide) ⟨.ref y.2.1, H, I1, hkey, ⟨rfl, y, hy, rfl⟩, st', fun b hb => (hf b hb).1⟩⟩
  done := by
    intro X hP hw hK hc i pins s σ H E I hf st hg
    subst hP hw hK
    obtain ⟨hd, hi⟩ := hg
    obtain ⟨f0, f1, f2, f3, f4, f5⟩ := hf it (by simp)
    obtain ⟨hs, hgd, hx, es', ep', hdt, hsz, ent⟩ := frzD I hd
    obtain ⟨rfl, rfl⟩ := dict_ep hod hdt
    exact next_key_end (I.ok.hd hc) st hgd hdt hsz hi fun h' eb => ⟨rfl, I.turned (t' := s.toks) (fun b ob hb e => eb b ob hb e) f0 f1 f3 f4 f5⟩
  self := fun A i s Q E st h => by
    refine wpAny_pyIter_slot st.typeIs F.slot_dict_keyiterator_iter (wpAny_call_entry F.slot_dict_keyiterator_iter st.typeIs F.entry_dict_keyiterator_iter ?_ (F.args_dict_keyiterator_iter_1 _))
    show wpAny _ _ (ret (.ref it)) _ _ s
    exact wpAny_pure ⟨_, rfl, "dict_keyiterator", _, st.typeIs, F.slot_dict_keyiterator_next.lookup, h⟩
theorem Wk.dct_ok {K : PySem.W.Frag} {mg : Str → Option Value} {wd : World} {r : List Addr} {H : Hp} {d : Addr} {o : Obj} {xs : List (NestedKey × Addr × V)} {kvs : List (D × D)} {n : Nat} (h : H d = some (.frz o (dtO wd d xs))) (q : DPTs K r H kvs xs) : ItOk K mg wd r H (ItD wd d o xs) (.tup (kvs.map (·.1))) n where
  stop := fun i r1 g1 H1 x R e => ⟨x.kept.2.1 _ _ _ h, by
    have e : some (kvs.map (·.1))[i]? = some none := e
    have e : (kvs.map (·.1))[i]? = none := Option.some.inj e
    have l := Paired.length q
    have := List.getElem?_eq_none_iff.mp e
    rw [List.length_map] at this
    omega⟩
  go := fun i r1 g1 H1 d' x R e => by
    have e : some (kvs.map (·.1))[i]? = some (some d') := e
    have e : (kvs.map (·.1))[i]? = some d' := Option.some.inj e
    rw [List.getElem?_map] at e
    obtain ⟨kv, e1, e2⟩ := Option.map_eq_some_iff.mp e
    obtain ⟨y, e3, e4⟩ := paired_getL q e1
    refine ⟨⟨x.kept.2.1 _ _ _ h, (List.getElem?_eq_some_iff.mp e3).1⟩, fun w H' ⟨hH, y', e5, e6⟩ => ?_⟩
    subst hH
    rw [e3] at e5
    cases e5
    rw [e6, ← e2]
    exact ⟨.refl _ _, R, VR.mono x _ _ e4.2.2.1⟩
def dctI (m : Env → G → Uk.R D) (e : Env) (g : G) : Uk.R (Nat × Wk) := (m e g).bind fun x g1 => match x with
  | .ref a => match g[a]?, g1[a]? with
    | some (.dT _), some (.dT kvs) => .ok (kvs.length, .tup (kvs.map (·.1))) (g1.set a (.lk kvs))
    | _, _ => .bad
  | _ => .bad
section
variable {X : L2.Cx} {ck : Arguments → List Stmt → Scope → FDef → Bool} {c : Cx} {N : List String} {sc : Scope} {r : List Addr} {H : Hp} {g : G} {pins : List (Addr × Obj)} {s : Shared} {σ : L2.St} {v : V} {e : Env}
theorem pi_dctL {E : L2.St → XK} {tg p : PySem.Expr} {m : Env → G → Uk.R D} (ha : PE X p (LE X E m)) : PI X tg p (LI X E (dctI m)) := by
  refine ⟨fun pins s σ H Rr I ⟨r, g, e, R, er, hp⟩ => ?_⟩
  unfold dctI at hp
  cases hm : m e g with
  | bad => exact (PostI.bad hm hp).elim
  | exc x g1 => exact thn (ha.run pins s σ H (fun _ _ => False) I (LE.to R er (PostI.exc hm hp))) fun u s1 ⟨v, H1, I1, ru, z⟩ => z.elim
  | ok d g1 =>
    rw [hm] at hp
    cases d with
    | ref i =>
      have hp : PostI X.K X.mg X.w (E σ) r H (match g[i]?, g1[i]? with
        | some (.dT _), some (.dT kvs) => .ok (kvs.length, .tup (kvs.map (·.1))) (g1.set i (.lk kvs))
        | _, _ => .bad) Rr := hp
      refine thn (ha.run pins s σ H (fun v H1 => ∃ r1, Ext r H r1 H1 ∧ Rel X.K X.mg X.w r1 g1 H1 ∧ VR X.K r1 H1 (.ref i) v) I (LE.to R er (by rw [hm]; exact fun r' v H' x R' q => ⟨r', x, R', q⟩))) fun u s1 ⟨v, H1, I1, ru, r1, x, R1, q⟩ => ?_
      obtain ⟨p1, ep, rfl⟩ := q.ref_inv
      obtain rfl : u = Value.ref p1 := ru
      split at hp
      · rename_i k0 kvs h0 h1
        obtain ⟨xs, h2, h3⟩ := R1.at_ i p1 _ ep h1
        obtain ⟨od, I2⟩ := I1.lock h2 trivial
        obtain ⟨hs, hgd, hx, es, epo, hdt, hsz, ent⟩ := frzD I2 upd_same
        have xp : Ext r1 H1 r1 (upd H1 p1 (.frz od (dtO X.w p1 xs))) := .put h2 trivial
        refine iter_keys hs hgd hx hdt (pi_one (tk := s1.toks) I2 _ (turn_keysD _ hdt) ⟨_, Heap.get?_push_size _ rfl, rfl, ?_⟩ (hp r1 _ _ (x.trans xp) (R1.put ep h2 trivial ⟨od, xs, upd_same, h3.mono xp⟩) (Wk.dct_ok upd_same (h3.mono xp))))
        rw [hsz]
        try rfl
      · exact hp.elim
    | _ => exact hp.elim
/-! ### unlocked -/
section
variable {K : PySem.W.Frag} {H' : Hp}
mutual
theorem VR.mv (hs : ∀ a xs, SqT K H a xs → SqT K H' a xs) (hf : ∀ a xs, FrL K H a xs → FrL K H' a xs) : ∀ (d : D) (v : V), VR K r H d v → VR K r H' d v
  | .non, _, h => by unfold VR at h ⊢; exact h
  | .bl _, _, h => by unfold VR at h ⊢; exact h
  | .int _, _, h => by unfold VR at h ⊢; exact h
  | .str _, _, h => by unfold VR at h ⊢; exact h
  | .tup xs, v, h => by
    unfold VR at h ⊢
    obtain ⟨a, vs, e, h1, h2⟩ := h
    exact ⟨a, vs, e, hs _ _ h1, VRs.mv hs hf xs vs h2⟩
  | .ref i, v, h => by unfold VR at h ⊢; exact h
  | .fro xs, v, h => by
    unfold VR at h ⊢
    obtain ⟨a, vs, e, h1, h2⟩ := h
    exact ⟨a, vs, e, hf _ _ h1, VRs.mv hs hf xs vs h2⟩
theorem VRs.mv (hs : ∀ a xs, SqT K H a xs → SqT K H' a xs) (hf : ∀ a xs, FrL K H a xs → FrL K H' a xs) : ∀ (ds : List D) (vs : List V), VRs K r H ds vs → VRs K r H' ds vs
  | [], _, h => by unfold VRs at h ⊢; exact h
  | d :: ds, vs, h => by
    unfold VRs at h ⊢
    obtain ⟨v, q, e, h1, h2⟩ := h
    exact ⟨v, q, e, VR.mv hs hf d v h1, VRs.mv hs hf ds q h2⟩
end
variable {mg : Str → Option Value} {wd : World}
theorem OR.mv {a : Addr} {o : O} (hs : ∀ a xs, SqT K H a xs → SqT K H' a xs) (hf : ∀ a xs, FrL K H a xs → FrL K H' a xs) (e : H' a = H a) (h : OR K mg wd r H a o) : OR K mg wd r H' a o := by
  cases o with
  | lst xs =>
    obtain ⟨vs, h1, h2⟩ := h
    exact ⟨vs, e.trans h1, VRs.mv hs hf _ _ h2⟩
  | dK kvs =>
    obtain ⟨ps, h1, h2⟩ := h
    exact ⟨ps, e.trans h1, L2.Paired.mapP h2 fun _ _ q => ⟨VR.mv hs hf _ _ q.1, VR.mv hs hf _ _ q.2⟩⟩
  | dT kvs =>
    obtain ⟨ps, h1, h2⟩ := h
    exact ⟨ps, e.trans h1, L2.Paired.mapP h2 fun _ _ q => ⟨q.1, q.2.1, VR.mv hs hf _ _ q.2.2.1, VR.mv hs hf _ _ q.2.2.2⟩⟩
  | lk kvs =>
    obtain ⟨o, ps, h1, h2⟩ := h
    exact ⟨o, ps, e.trans h1, L2.Paired.mapP h2 fun _ _ q => ⟨q.1, q.2.1, VR.mv hs hf _ _ q.2.2.1, VR.mv hs hf _ _ q.2.2.2⟩⟩
  | ins c fs =>
    obtain ⟨C, dx, ps, h0, h1, h2⟩ := h
    exact ⟨C, dx, ps, h0, e.trans h1, L2.Paired.mapP h2 fun _ _ q => ⟨q.1, VR.mv hs hf _ _ q.2⟩⟩
theorem unlk_sq {p : Addr} {o : Obj} {φ : Heap → Prop} {u : HO} (h : H p = some (.frz o (.ext φ))) (a : Addr) (xs : List V) (q : SqT K H a xs) : SqT K (upd H p u) a xs := by
  rcases q with (q | ⟨ob, q⟩) | q
  · refine .inl (.inl ?_)
    rw [upd_ne fun z => by subst z; rw [h] at q; cases q]
    exact q
  · refine .inl (.inr ⟨ob, ?_⟩)
    rw [upd_ne fun z => by subst z; rw [h] at q; cases q]
    exact q
  · exact .inr q
theorem unlk_fr {p : Addr} {o : Obj} {φ : Heap → Prop} {u : HO} (h : H p = some (.frz o (.ext φ))) (a : Addr) (xs : List V) (q : FrL K H a xs) : FrL K (upd H p u) a xs := by
  rcases q with ⟨ob, q⟩ | q
  · refine .inl ⟨ob, ?_⟩
    rw [upd_ne fun z => by subst z; rw [h] at q; cases q]
    exact q
  · exact .inr q
theorem Rel.unlk (R : Rel K mg wd r g H) {i : Nat} {p : Addr} {kvs : List (D × D)} {o : Obj} {xs : List (NestedKey × Addr × V)} (hi : r[i]? = some p) (h : H p = some (.frz o (dtO wd p xs))) (q : DPTs K r H kvs xs) : Rel K mg wd r (g.set i (.dT kvs)) (upd H p (dtO wd p xs)) := by
  have hs := unlk_sq (K := K) (u := dtO wd p xs) h
  have hf := unlk_fr (K := K) (u := dtO wd p xs) h
  refine ⟨by simp [R.len], R.nd, fun j b u e1 e2 => ?_, fun t ht => (R.tab t ht).at (fun b u e z => by rw [upd_ne (fun y : b = p => z (by rw [y]; exact List.mem_of_getElem? hi))]; exact e) (R.tabN ht) fun _ z _ => z⟩
  have il : i < r.length := (List.getElem?_eq_some_iff.mp hi).1
  by_cases hj : j = i
  · subst hj
    rw [hi] at e1
    cases e1
    rw [List.getElem?_set_self (by rw [← R.len]; exact il)] at e2
    cases e2
    exact ⟨xs, upd_same, L2.Paired.mapP q fun _ _ q => ⟨q.1, q.2.1, VR.mv hs hf _ _ q.2.2.1, VR.mv hs hf _ _ q.2.2.2⟩⟩
  · rw [List.getElem?_set_ne (Ne.symm hj)] at e2
    refine (R.at_ j b u e1 e2).mv hs hf (upd_ne fun z => ?_)
    subst z
    exact hj (Rel.put.nodup_ix2 R.nd e1 hi)
theorem Ext.unlk {r' : List Addr} {p : Addr} {u u' : HO} {o : Obj} (x : Ext r H r' H') (h0 : H p = some u') (w : Wr u') : Ext r H r' (upd H' p u) := by
  refine ⟨x.pre, fun b xs e => ?_, fun b ob y e => ?_, fun b ps e => ?_⟩
  · rw [upd_ne fun z => by subst z; rw [h0] at e; cases e; exact w]
    exact x.kept.1 _ _ e
  · rw [upd_ne fun z => by subst z; rw [h0] at e; cases e; exact w]
    exact x.kept.2.1 _ _ _ e
  · rw [upd_ne fun z => by subst z; rw [h0] at e; cases e; exact w]
    exact x.kept.2.2 _ _ e
end
def forDS (m : Env → G → Uk.R D) (t : Tg) (mb : Env → G → RS) (e : Env) (g : G) : RS := (m e g).bind fun x g1 => match x with
  | .ref a => match g[a]?, g1[a]? with
    | some (.dT _), some (.dT kvs) => Uk.unlk a (forL (.tup (kvs.map (·.1))) kvs.length t mb kvs.length 0 e (g1.set a (.lk kvs)))
    | _, _ => .bad
  | _ => .bad
theorem ok_forD {E : XK} (S : XS X ck c N sc E) {t : Tg} {pt pi : PySem.Expr} {body : List Stmt} {pos : Pos} {m : Env → G → Uk.R D} {mb : Env → G → RS} (ht : ckT N sc t pt = true) (hi : PE X pi (LE X (kE E) m)) (hf : ∀ x, foldedSetIterable pi X.env x = pure x) (hb : PSs X body (LS X E mb)) :
    PS X (.For pt pi body [] pos) (LS X E (forDS m t mb)) := by
  have P0 := ok_for (pos := pos) S ht (pi_dctL (tg := pt) hi) hf hb
  refine ⟨fun pins s σ H Dn I ⟨r, g, e, R, er, hp⟩ => ?_⟩
  unfold forDS at hp
  cases hm : m e g with
  | bad => rw [hm] at hp; exact hp.elim
  | exc x g1 =>
    rw [hm] at hp
    refine P0.run pins s σ H Dn I ⟨r, g, e, R, er, ?_⟩
    show PostS X.K X.mg X.w E r H ((dctI m e g).bind fun w g => forL w.2 w.1 t mb w.1 0 e g) Dn
    unfold dctI
    rw [hm]
    exact hp
  | ok d g1 =>
    rw [hm] at hp
    cases d with
    | ref a =>
      have hp : PostS X.K X.mg X.w E r H (match g[a]?, g1[a]? with
        | some (.dT _), some (.dT kvs) => Uk.unlk a (forL (.tup (kvs.map (·.1))) kvs.length t mb kvs.length 0 e (g1.set a (.lk kvs)))
        | _, _ => .bad) Dn := hp
      split at hp
      · rename_i k0 kvs h0 h1
        obtain ⟨p, ep, oo⟩ := R.addr h0
        obtain ⟨xs0, h2, h3⟩ := oo
        have hn := I.nofrz h2 trivial
        have P1 := P0.run pins s σ H ⟨fun σ' H' => ∃ od u, H' p = some (.frz od u) ∧ Dn.nx σ' (upd H' p u), fun v H' => ∃ od u, H' p = some (.frz od u) ∧ Dn.rt v (upd H' p u), fun _ _ => False, fun _ _ => False⟩ I ⟨r, g, e, R, er, by
          show PostS X.K X.mg X.w E r H ((dctI m e g).bind fun w g => forL w.2 w.1 t mb w.1 0 e g) _
          unfold dctI
          rw [hm]
          show PostS X.K X.mg X.w E r H ((match g[a]?, g1[a]? with
            | some (.dT _), some (.dT kvs) => Uk.R.ok (kvs.length, Wk.tup (kvs.map fun p : D × D => p.1)) (g1.set a (.lk kvs))
            | _, _ => .bad).bind fun w g => forL w.2 w.1 t mb w.1 0 e g) _
          rw [h0, h1]
          show PostS X.K X.mg X.w E r H (forL (.tup (kvs.map (·.1))) kvs.length t mb kvs.length 0 e (g1.set a (.lk kvs))) _
          cases hfl : forL (.tup (kvs.map (·.1))) kvs.length t mb kvs.length 0 e (g1.set a (.lk kvs)) with
          | bad => rw [hfl] at hp; exact hp.elim
          | exc x g4 => rw [hfl] at hp; exact hp.elim
          | ok z g4 =>
            rw [hfl] at hp
            unfold Uk.unlk at hp
            dsimp only at hp
            split at hp
            · rename_i kvs' h4
              obtain ⟨e4, f⟩ := z
              cases f with
              | nx =>
                intro r' σ' H' x R' er'
                have ep' : r'[a]? = some p := x.get ep
                obtain ⟨o, xs, h5, h6⟩ := R'.at_ a p _ ep' h4
                refine ⟨o, _, h5, hp r' σ' _ (x.unlk (o := o) h2 trivial) (R'.unlk ep' h5 h6) ⟨er'.1, fun i d q => ?_⟩⟩
                obtain ⟨v, q1, q2⟩ := er'.2 i d q
                exact ⟨v, q1, VR.mv (unlk_sq h5) (unlk_fr h5) _ _ q2⟩
              | rt d4 =>
                intro r' v H' x R' q
                have ep' : r'[a]? = some p := x.get ep
                obtain ⟨o, xs, h5, h6⟩ := R'.at_ a p _ ep' h4
                exact ⟨o, _, h5, hp r' v _ (x.unlk (o := o) h2 trivial) (R'.unlk ep' h5 h6) (VR.mv (unlk_sq h5) (unlk_fr h5) _ _ q)⟩
            · exact hp.elim⟩
        refine thn P1 fun f s1 q => ?_
        cases f with
        | next => obtain ⟨σ', H', I2, od, u, e, q⟩ := q; exact ⟨σ', _, I2.unlock e hn, q⟩
        | brk => obtain ⟨σ', H', I2, q⟩ := q; exact q.elim
        | cont => obtain ⟨σ', H', I2, q⟩ := q; exact q.elim
        | ret v => obtain ⟨x, σ', H', I2, r, od, u, e, q⟩ := q; exact ⟨x, σ', _, I2.unlock e hn, r, q⟩
      · exact hp.elim
    | _ => exact hp.elim
end
end Uk
end
section
set_option Elab.async false
set_option linter.all false
set_option maxRecDepth 100000
set_option autoImplicit false
set_option maxHeartbeats 1000000
namespace Uk
open PySem PySem.Spec PyProof.Rows L2
/-! ## name = {k: v for ..} -/
def swD (sc : Scope) (s : Scope) (pos : Pos) (x : Str) (py : Pos) : Bool := decide (sc.names.lookup x = some .local) && (py.line == pos.line) && !(s.names.any fun (n, k) => n == x && (k == .local || k == .cell))
theorem swd_eq {a b : PySem.Expr} {gs : List Comprehension} {s : Scope} {pos py : Pos} {x : Str} {l : Nat} {env : PySem.Env} (hk : env.scope.kind = .function) : swapsWith (.DictComp a b gs s pos) (some (.Name x py)) l env = pure (swD env.scope s pos x py) := by
  have hb : env.blockKind = .function := by unfold Env.blockKind; rw [hk]; rfl
  have e1 : (env.kindOf x == some NameKind.local) = decide (env.scope.names.lookup x = some .local) := by
    unfold Env.kindOf
    cases env.scope.names.lookup x with
    | none => rfl
    | some k => cases k <;> rfl
  unfold swapsWith swD
  simp only [hb, Expr.pos, e1]
  have e2 : (ScopeKind.function == ScopeKind.function) = true := rfl
  simp only [e2, Bool.true_and]
section
variable {X : L2.Cx} {ck : Arguments → List Stmt → Scope → FDef → Bool} {c : Cx} {N : List String} {sc : Scope} {E : XK}
theorem ps_setDc {i : Nat} {y : Str} {py : Pos} {kx vx tg iter : PySem.Expr} {scope : Scope} {own : List (Str × Nat)} {pos spos : Pos} {wi : TI} {g : TG} {tt : TT} {tk tv : TE} (hc : X.calm = true) (hN : X.N.Nodup) (hy : X.N[i]? = some y) (hyl : X.env.scope.names.lookup y = some .local)
    (hsw : swapsWith (.DictComp kx vx [⟨tg, iter, [], 0⟩] scope pos) (some (.Name y py)) spos.line X.env = pure true) (hi : PI X tg iter wi) (ok : BlkOk X.N X.env.scope scope own)
    (hg : ∀ (s : Shared) (H : Hp) (C : Addr) (cl : List (Str × Addr)) (fp : List Addr), PG (X.blk s H scope (compEnvC scope cl C X.env) fp) tg g) (ht : ∀ (s : Shared) (H : Hp) (C : Addr) (cl : List (Str × Addr)) (fp : List Addr), PTs (X.blk s H scope (compEnvC scope cl C X.env) fp) [] tt)
    (hk : ∀ (s : Shared) (H : Hp) (C : Addr) (cl : List (Str × Addr)) (fp : List Addr), PE (X.blk s H scope (compEnvC scope cl C X.env) fp) kx tk)
    (he : ∀ (s : Shared) (H : Hp) (C : Addr) (cl : List (Str × Addr)) (fp : List Addr), PE (X.blk s H scope (compEnvC scope cl C X.env) fp) vx tv) (hs : ∀ x, foldedSetIterable iter X.env x = pure x) :
    PS X (.Assign [.Name y py] (.DictComp kx vx [⟨tg, iter, [], 0⟩] scope pos) spos) (tAsg (tDc wi g tt tk tv (own.map (·.2))) (gName i)) := by
  refine ⟨fun pins s σ H D I h => ?_⟩
  rw [exec_Assign_Name_used _ _ _ _ hsw]
  refine wpAny_bind (wpAny_standAt (wpAny_bind ?_))
  show wpAny _ X.A (do let _ ← comprehension (.DictComp kx vx [⟨tg, iter, [], 0⟩] scope pos) scope X.env (firstIterPos [⟨tg, iter, [], 0⟩] pos) newDict false (eval iter X.env) (some (assign (.Name y py) X.env))) _ _ s
  have h : tDc wi g tt tk tv (own.map (·.2)) σ H (fun x H1 => gName i x σ H1 D.nx) := h
  refine wpAny_bind (thn (dc_core (Qf := fun _ s' => SP X pins D .next s') hc hN I hi ok hg ht hk he hs h fun L C s' m H' I' q hn f => ?_) fun _ s' hq => wpAny_pure (wpAny_pure hq))
  show wpAny _ _ (assign (.Name y py) X.env (.ref L)) _ _ _
  refine wpAny_assign_Name (store_ok2 (v := V.ref L) I' hN hy (.inl hyl) rfl (fun s2 I2 ⟨a, sb, ha⟩ => ?_) (.inr hyl))
  obtain ⟨f0, f1, f2, f3, f4, f5⟩ := f
  have haC : C ≠ a := by
    rcases ha with z | z
    · rw [z]; exact f1
    · exact fun e => f4 y a z e.symm
  refine ⟨m, hn.sameBut sb haC, fun h3 sb3 => ?_⟩
  exact ⟨_, H', I2.turned (t' := s2.toks) (fun b o hb e => (sb3.2 b hb).trans e) f0 f1 f3 f4 f5, q⟩
theorem ok_asgD (S : XS X ck c N sc E) {i : Nat} {x : Str} {py spos : Pos} {pt pi p q : PySem.Expr} {scope : Scope} {pos : Pos} {vs : List Nat} {tg : Tg} {mi : Env → G → Uk.R (Nat × Wk)} {mk mv : Env → G → Uk.R D} (ht : tgB N sc i x = true)
    (hv : (ownOf N vs).map (·.2) = vs) (hb : blkC (N.map sS) sc scope (ownOf N vs) = true) (htg : ckT N scope tg pt = true) (hin : ∀ i ∈ tgIx tg, i ∈ vs) (hi : PI X pt pi (LI X (kE E) mi)) (hf : ∀ x, foldedSetIterable pi X.env x = pure x)
    (hk : ∀ (Y : L2.Cx), XOk Y ck c N (relS scope sc) E0' → PE Y p (LE Y E0' mk)) (he : ∀ (Y : L2.Cx), XOk Y ck c N (relS scope sc) E0' → PE Y q (LE Y E0' mv)) :
    PS X (.Assign [.Name x py] (.DictComp p q [⟨pt, pi, [], 0⟩] scope pos) spos) (LS X E fun e g => (dcD false mi mk mv tg vs e g).bind fun x g => .ok (e.set i (some x), .nx) g) := by
  have hkf : X.env.scope.kind = .function := by rw [S.o.sc]; exact S.kf
  have hsw := swd_eq (a := p) (b := q) (gs := [⟨pt, pi, [], 0⟩]) (s := scope) (pos := pos) (py := py) (x := x) (l := spos.line) hkf
  cases hb2 : swD X.env.scope scope pos x py with
  | false =>
    rw [hb2] at hsw
    exact ok_asg S ht hsw (ok_dco S.o hv hb htg hin hi hf hk he)
  | true =>
    rw [hb2] at hsw
    unfold swD at hb2
    rw [Bool.and_eq_true, Bool.and_eq_true] at hb2
    have hyl := of_decide_eq_true hb2.1.1
    obtain ⟨h1, h2, h3⟩ := tgB_get S.o.nm S.tg ht
    have ok : BlkOk X.N X.env.scope scope (ownOf N vs) := by
      rw [S.o.nm, S.o.sc]
      exact blkOk_by hb
    have P := ps_setDc (kx := p) (vx := q) (tg := pt) (iter := pi) (pos := pos) (spos := spos) (py := py) (wi := LI X (kE E) mi) (g := GD X tg) (tt := fun _ H Q => Q true H) (tk := LE X E0' mk) (tv := LE X E0' mv) S.o.calm S.o.nd h1 hyl hsw hi ok
      (fun s H C cl fp => pg_tg (X := X.blk s H scope (compEnvC scope cl C X.env) fp) S.o.calm S.o.nm S.o.nd (TgOk.blk S.o s H scope cl C fp) htg)
      (fun s H C cl fp => pts_nil) (fun s H C cl fp => hk _ (S.o.blk s H scope cl C fp)) (fun s H C cl fp => he _ (S.o.blk s H scope cl C fp)) hf
    rw [hv] at P
    refine ⟨fun pins s σ H Dn I q => P.run pins s σ H Dn I ?_⟩
    obtain ⟨r, g, e, R, er, hp⟩ := asg_reads q
    exact dc_reads rfl rfl rfl hin (fun _ _ _ _ h => h) (fun _ _ _ h => h) (fun _ _ _ h => h) R er hp
end
end Uk
end
section
set_option Elab.async false
set_option linter.all false
set_option maxRecDepth 100000
set_option autoImplicit false
set_option maxHeartbeats 2000000
namespace Uk
open PySem PySem.Spec PyProof.Rows L2
theorem str_beq_false {a b : String} (h : a ≠ b) : (sS a == sS b) = false := by
  rw [beq_eq_false_iff_ne]
  exact fun z => h (sS_inj z)
theorem relO_fld {f : String} {v : V} {v' : Value} (r : RelV v v') (y : Str) : RelO (List.lookup y [(sS f, v)]) (if y = sS f then some v' else none) := by
  by_cases hw : y = sS f
  · rw [if_pos hw, hw]
    have q : List.lookup (sS f) [(sS f, v)] = some v := by simp [List.lookup]
    rw [q]
    exact r
  · rw [if_neg hw]
    have qw : (y == sS f) = false := by simpa using hw
    have q2 : List.lookup y [(sS f, v)] = none := by simp [List.lookup, qw]
    rw [q2]
    trivial
section
variable {X : L2.Cx} {ck : Arguments → List Stmt → Scope → FDef → Bool} {c : Cx} {N : List String} {sc : Scope} {E : XK} {r : List Addr} {H : Hp} {g : G} {Dn : Ends} {σ : L2.St} {e : Env}
theorem LA.bindS {m : Env → G → Uk.R (List D)} (R : Rel X.K X.mg X.w r g H) (er : ER X.K r H e σ) {k : List D → G → RS} (hp : PostS X.K X.mg X.w E r H ((m e g).bind k) Dn) {Q' : List V → Hp → Prop}
    (next : ∀ (r1 : List Addr) (g1 : G) (H1 : Hp) (d : List D) (v : List V), Ext r H r1 H1 → Rel X.K X.mg X.w r1 g1 H1 → ER X.K r1 H1 e σ → VRs X.K r1 H1 d v → PostS X.K X.mg X.w E r1 H1 (k d g1) Dn → Q' v H1) : LA X (kE E) m σ H Q' := by
  refine ⟨r, g, e, R, er, ?_⟩
  cases hm : m e g with
  | ok d g1 =>
    rw [hm] at hp
    have hp : PostS X.K X.mg X.w E r H (k d g1) Dn := hp
    exact fun r' v H' x R' q => next r' g1 H' d v x R' (er.mono x) q (hp.ext x)
  | exc y g1 => rw [hm] at hp; exact hp
  | bad => rw [hm] at hp; exact hp.elim
/-- C(x), C an error with the field f -/
theorem pmk_ex {C fI : Addr} {k f : String} {a : PySem.Expr} {ta : TA} {p pos : Pos} {n : Nat} (FN : FldN f) (T : ExT X.K C fI f) (gC : X.mg (sS k) = some (.ref C)) (hr : Room n X.A) (ha : PA X [a] ta) (hg : Gl X (sS k)) (hd : (sS k == ("__debug__" : Str)) = false)
    (he : starEach (a :: []) X.env = (false, eval a X.env) :: starEach [] X.env) :
    PMk X (.Call (.Name (sS k) p) [a] [] pos) (fun σ H Q => ta σ H fun vs H1 => ∃ v, vs = [v] ∧ ∀ d, H1 d = none → Q (.ref C) (some d) (upd H1 d (.xd [(sS f, v)]))) := by
  intro pins s σ H Q I h
  refine wpAny_Call_Name_kw (ld_glob I hg gC ?_ hd)
  refine PySem.W.callWith_K (h₀ := X.base) I.ok.mod.kin T.kC (thn (ha.run pos pins s σ H _ I h) fun us s1 hh => ?_) he rfl
  obtain ⟨vs, H1, I1, r1, v, ev, q1⟩ := hh
  subst ev
  refine ⟨I1.kIn, ?_⟩
  cases r1 with
  | cons rv rn =>
    rename_i v' us'
    cases rn
    show wpAny _ _ (PySem.call (.ref C) [v']) _ _ _
    have hlim := I1.nolimit
    obtain ⟨hp, g, dr, tk, os⟩ := s1
    refine wpAny_call (ex_made FN T I1.kIn hlim (by have := hr.dp; omega) fun h' tk' e d M => ?_)
    show MkP X pins σ Q (.ref e) ⟨h', g, dr, tk', os⟩
    obtain ⟨oe, fv, hoe, hc, hd, hdat, h1⟩ := M.obj
    have hns := M.ns
    obtain ⟨G', g1, g2⟩ := restrict h' fun b => decide (b ≠ e)
    have gk : ∀ b, b ≠ e → G'.get? b = h'.get? b := fun b hb => g1 b (decide_eq_true hb)
    have ge : G'.get? e = none := g2 e (by simp)
    have old : ∀ b o, hp.get? b = some o → G'.get? b = some o := fun b o q => (gk b (Nat.ne_of_lt (Nat.lt_of_lt_of_le (Heap.lt_size q) M.new))).trans (M.keep b o q)
    have ob : ObjOk X.prog X.w (upd H1 d (.xd [(sS f, v)])) G' d (.xd [(sS f, v)]) :=
      ⟨_, hns.at (fun o q => (gk d M.dne).trans q), fun y => relO_fld rv y⟩
    have J : Inv X pins σ (upd H1 d (.xd [(sS f, v)])) ⟨G', g, dr, tk', os⟩ := I1.laid (t' := tk') old M.dbig ob
    refine ⟨e, oe, fv, ⟨G', g, dr, tk', os⟩, _, .ref C, some d, rfl, J, fun b o q => ?_, ge, hoe, ⟨hc, hd⟩, hdat, h1, ?_, rfl, I1.bare, raises_own T.exC T.tyC, q1 d (I1.hok.fresh M.dbig)⟩
    · by_cases hb : b = e
      · have q' : G'.get? b = some o := q
        rw [hb, ge] at q'; cases q'
      · exact (gk b hb).symm.trans q
    · rw [upd_ne (Ne.symm M.dne)]
      exact I1.hok.fresh M.new
/-- raise C(x) -/
theorem ok_rai (S : XS X ck c N sc E) {k f : String} {a : PySem.Expr} {p pos pos2 : Pos} {m : Env → G → Uk.R (List D)} (hk : c.P.exn k = some (some f)) (hg : glB sc (sS k) = true) (hpl : plainP a = true) (ha : PA X [a] (LA X (kE E) m)) :
    PS X (.Raise (some (.Call (.Name (sS k) p) [a] [] pos)) none pos2) (LS X E fun e g => (m e g).bind fun ds g => match c.P.exn k, ds with
    | some none, [] => .exc ⟨k, []⟩ g
    | some (some f), [d] => .exc ⟨k, [(f, d)]⟩ g
    | _, _ => .bad) := by
  obtain ⟨C, fI, gC, T, FN⟩ := S.o.gf.exn k f hk
  obtain ⟨gl, nd, nn⟩ := pe_callD.gl_of S.o hg
  obtain ⟨n, hr, _⟩ := S.o.room
  refine ⟨fun pins s σ H Dn I ⟨r, g, e, R, er, hp⟩ => (ps_raise S.o.calm S.tk (pmk_ex (p := p) (pos := pos) FN T gC hr ha gl nd (star_plain hpl))).run pins s σ H Dn I ?_⟩
  refine LA.bindS R er hp fun r' g1 H' ds vs x R' er' q hp => ?_
  rw [hk] at hp
  match ds, hp, q with
  | [], hp, _ => exact hp.elim
  | _ :: _ :: _, hp, _ => exact hp.elim
  | [d], hp, q =>
    obtain ⟨v, rfl, q1⟩ := q.one
    refine ⟨v, rfl, fun dd hdd => ?_⟩
    have hp : PostS X.K X.mg X.w E r' H' (.exc ⟨k, [(f, d)]⟩ g1) Dn := hp
    have ex : Ext r' H' r' (upd H' dd (.xd [(sS f, v)])) := .new hdd
    exact hp r' _ _ _ ex (R'.beside hdd) ⟨C, gC, rfl, dd, _, rfl, upd_same, .cons ⟨rfl, VR.mono ex _ _ q1⟩ .nil⟩
/-! ## try -/
/-- the reading of a handler's expression: the exception x stands at a, its dict at dx; the name's slot is j -/
def LH (X : L2.Cx) (j : Nat) (a : Addr) (cls : Value) (dx : Option Addr) (m : Exn → G → Uk.R D) : TE := fun σ H Q => ∃ (r : List Addr) (g : G) (x : Exn), Rel X.K X.mg X.w r g H ∧ XR X.K X.mg r H x cls dx ∧ σ[j]? = some (some (.ref a)) ∧ Post X.K X.mg X.w (fun _ _ _ => False) r H (m x g) Q
theorem pe_exf {C fI : Addr} {k f : String} {a : Addr} {oe : Obj} {cls : Value} {d : Option Addr} {pn : List (Addr × Obj)} {n : Str} {p1 pos : Pos} {j : Nat} (T : ExT X.K C fI f) (gC : X.mg (sS k) = some (.ref C)) (hz : Zc cls d oe) (hf : ∃ vs, oe.data = .fields vs)
    (hj : X.N[j]? = some n) (hv : Vis X.env.scope n) (hd1 : (n == ("__debug__" : Str)) = false) (hd2 : (n == ("__classdict__" : Str)) = false) :
    PE (X.suite a ((a, oe) :: pn)) (.Attribute (.Name n p1) (sS f) pos) (LH X j a cls d fun x g => if x.cls = k then orElse (lookF f x.fs) fun v => .ok v g else .bad) := by
  refine ⟨fun pins s σ H Q I ⟨r, g, x, R, xr, hs, hp⟩ => ?_⟩
  have he : PE (X.suite a ((a, oe) :: pn)) (.Name n p1) (tVar j) := pe_var (X := X.suite a ((a, oe) :: pn)) hj hv hd1 hd2
  refine attr_of (base_plain rfl) (thn (he.run pins s σ H (fun v H1 => v = .ref a ∧ H1 = H) I ⟨.ref a, hs, rfl, rfl⟩) fun u s1 hh => ?_)
  obtain ⟨v0, H1, I1, rx, ev, eH⟩ := hh
  subst ev eH
  obtain rfl : u = Value.ref a := rx
  dsimp only at hp
  split at hp
  · rename_i hx
    obtain ⟨C2, g2, ec, hfs⟩ := xr
    rw [hx, gC] at g2
    cases g2
    subst ec
    cases hl : lookF f x.fs with
    | none => rw [hl] at hp; exact hp.elim
    | some dv =>
      rw [hl] at hp
      have hp : Post X.K X.mg X.w (fun _ _ _ => False) r H1 (.ok dv g) Q := hp
      have hfs2 : ∃ dd ps, d = some dd ∧ H1 dd = some (.xd ps) ∧ FRs X.K r H1 x.fs ps := by
        cases hxf : x.fs with
        | nil => rw [hxf] at hl; cases hl
        | cons y ys => rw [hxf] at hfs; exact hfs
      obtain ⟨dd, ps, ed, ea, fr⟩ := hfs2
      subst ed
      have hlk := lookF_rel (f := f) fr
      rw [hl] at hlk
      obtain ⟨v, hv1, hv2⟩ := hlk
      obtain ⟨ha, _⟩ := I1.pin (a, oe) (List.mem_append_left _ List.mem_cons_self)
      obtain ⟨vs, hd⟩ := hf
      have hx : ObjOk X.prog X.w H1 s1.heap dd (.xd ps) := I1.hok dd _ ea
      obtain ⟨mA, hns, hr⟩ := hx
      obtain ⟨od, ho, hlo⟩ := lookIn_ns hns
      obtain ⟨u, hu, ru⟩ := RelO.some_of (v := v) (o := mA (sS f)) (by rw [← hv1]; exact hr (sS f))
      have J : PySem.W.InstAt s1.heap a oe C (some od) := ⟨ha, hz.1, by unfold PySem.W.notCls; rw [hd] <;> rfl, by rw [hz.2]; exact ho⟩
      exact HandSPX.exc_get I1.kIn J T.ga T.gg T.exC (PySem.W.findObj_own T.hdC T.noN rfl (by rw [hlo, hu])) (handed_of ru) ⟨v, H1, I1.tok _, ru, hp.here R hv2⟩
  · exact hp.elim
/-! ### what a handler computes: constants, fields of the error, lists of them -/
def LHA (X : L2.Cx) (j : Nat) (a : Addr) (cls : Value) (dx : Option Addr) (m : Exn → G → Uk.R (List D)) : TA := fun σ H Q => ∃ (r : List Addr) (g : G) (x : Exn), Rel X.K X.mg X.w r g H ∧ XR X.K X.mg r H x cls dx ∧ σ[j]? = some (some (.ref a)) ∧ PostA X.K X.mg X.w (fun _ _ _ => False) r H (m x g) Q
theorem XR.mono {K : PySem.W.Frag} {mg : Str → Option Value} {r r1 : List Addr} {H H1 : Hp} {x : Exn} {cls : Value} {d : Option Addr} (h : XR K mg r H x cls d) (y : Ext r H r1 H1) : XR K mg r1 H1 x cls d := by
  obtain ⟨C, h1, h2, h3⟩ := h
  refine ⟨C, h1, h2, ?_⟩
  cases hx : x.fs with
  | nil => rw [hx] at h3; exact h3
  | cons q qs =>
    rw [hx] at h3
    obtain ⟨a, ps, e1, e2, e3⟩ := h3
    exact ⟨a, ps, e1, y.kept.2.2 _ _ e2, e3.mono y⟩
end
/-- a handler's expression: does it read as p; n: the error's name, f: its field -/
def hdE (n : Str) (f : String) : Uk.E → PySem.Expr → Bool
  | .cst d, .Constant k _ _ => ckC d k
  | .exf f', .Attribute (.Name x _) y _ => decide (f' = f) && decide (x = n) && decide (sS f' = y)
  | _, _ => false
def hdEs (n : Str) (f : String) : Uk.Es → List PySem.Expr → Bool
  | .n, [] => true
  | .c e es, p :: ps => hdE n f e p && hdEs n f es ps
  | _, _ => false
def hdL (n : Str) (f : String) : Uk.E → PySem.Expr → Bool
  | .lst es, .List ps _ => hdEs n f es ps
  | e, p => hdE n f e p
section
variable {X : L2.Cx} {c : Cx} {C fI : Addr} {k f : String} {a : Addr} {oe : Obj} {cls : Value} {d : Option Addr} {pn : List (Addr × Obj)} {n : Str} {j : Nat}
theorem cst_v {X : L2.Cx} {d : D} {k : Const} {j : Nat} {pos : Pos} (h : ckC d k = true) : ∃ v, PE X (.Constant k j pos) (tC v) ∧ ∀ (K : PySem.W.Frag) (r : List Addr) (H : Hp), VR K r H d v := by
  cases d with
  | non =>
    cases k with
    | none => exact ⟨_, pe_non, fun _ _ _ => .non⟩
    | _ => cases h
  | bl a =>
    cases k with
    | bool b =>
      have h : (a == b) = true := h
      rw [eq_of_beq h]
      exact ⟨_, pe_bl, fun _ _ _ => .bl⟩
    | _ => cases h
  | int a =>
    cases k with
    | int b =>
      have h : a = b := of_decide_eq_true h
      rw [h]
      exact ⟨_, pe_int, fun _ _ _ => .int⟩
    | _ => cases h
  | str a =>
    cases k with
    | str b =>
      have h : sS a = b := of_decide_eq_true h
      subst h
      exact ⟨_, pe_str, fun _ _ _ => .str⟩
    | _ => cases h
  | _ => cases k <;> cases h
theorem hdE_inv {n : Str} {f : String} {h : Uk.E} {p : PySem.Expr} (hh : hdE n f h p = true) : (∃ dd kk l pos, h = .cst dd ∧ p = .Constant kk l pos ∧ ckC dd kk = true) ∨ ∃ p1 pos, h = .exf f ∧ p = .Attribute (.Name n p1) (sS f) pos := by
  unfold hdE at hh
  split at hh
  · exact .inl ⟨_, _, _, _, rfl, rfl, hh⟩
  · simp only [Bool.and_eq_true] at hh
    obtain ⟨⟨h1, h2⟩, h3⟩ := hh
    have h1 := of_decide_eq_true h1
    have h2 := of_decide_eq_true h2
    have h3 := of_decide_eq_true h3
    subst h1 h2 h3
    exact .inr ⟨_, _, rfl, rfl⟩
  · cases hh
theorem hdE_plain {n : Str} {f : String} {h : Uk.E} {p : PySem.Expr} (hh : hdE n f h p = true) : plainP p = true := by
  rcases hdE_inv hh with ⟨_, _, _, _, _, rfl, _⟩ | ⟨_, _, _, rfl⟩ <;> rfl
theorem hd_one (T : ExT X.K C fI f) (gC : X.mg (sS k) = some (.ref C)) (hz : Zc cls d oe) (hf : ∃ vs, oe.data = .fields vs)
    (hj : X.N[j]? = some n) (hv : Vis X.env.scope n) (hd1 : (n == ("__debug__" : Str)) = false) (hd2 : (n == ("__classdict__" : Str)) = false) (δ : Env)
    (h : Uk.E) (p : PySem.Expr) (hh : hdE n f h p = true) : PE (X.suite a ((a, oe) :: pn)) p (LH X j a cls d fun x g => if x.cls = k then ev { c with cur := some x } h δ g else .bad) := by
  rcases hdE_inv hh with ⟨dd, kk, l, pos, rfl, rfl, hh⟩ | ⟨p1, pos, rfl, rfl⟩
  · refine ⟨fun pins s σ H Q I ⟨r, g, x, R, xr, hs, hp⟩ => ?_⟩
    dsimp only at hp
    split at hp
    · have hp : Post X.K X.mg X.w (fun _ _ _ => False) r H (.ok dd g) Q := hp
      obtain ⟨v, hv1, hv2⟩ := cst_v (X := X.suite a ((a, oe) :: pn)) (j := l) (pos := pos) hh
      exact hv1.run pins s σ H Q I (hp.here R (hv2 _ r H))
    · exact hp.elim
  · have P := pe_exf (p1 := p1) (pos := pos) (pn := pn) (a := a) T gC hz hf hj hv hd1 hd2
    refine ⟨fun pins s σ H Q I ⟨r, g, x, R, xr, hs, hp⟩ => P.run pins s σ H Q I ⟨r, g, x, R, xr, hs, ?_⟩⟩
    dsimp only at hp ⊢
    split at hp
    · rename_i hx
      rw [if_pos hx]
      exact hp
    · exact hp.elim
/-- nothing of these makes anything -/
theorem hd_same {c : Cx} {x : Exn} {δ : Env} {g g1 : G} {h : Uk.E} {p : PySem.Expr} {v : D} (hh : hdE n f h p = true) (e : ev { c with cur := some x } h δ g = .ok v g1) : g1 = g := by
  rcases hdE_inv hh with ⟨dd, kk, l, pos, rfl, rfl, hh⟩ | ⟨p1, pos, rfl, rfl⟩
  · have e : Uk.R.ok dd g = .ok v g1 := e
    cases e; rfl
  · have e : (orElse (lookF f x.fs) fun v => Uk.R.ok v g) = .ok v g1 := e
    cases hl : lookF f x.fs with
    | none => rw [hl] at e; cases e
    | some w => rw [hl] at e; cases e; rfl
theorem hd_all (T : ExT X.K C fI f) (gC : X.mg (sS k) = some (.ref C)) (hz : Zc cls d oe) (hf : ∃ vs, oe.data = .fields vs)
    (hj : X.N[j]? = some n) (hv : Vis X.env.scope n) (hd1 : (n == ("__debug__" : Str)) = false) (hd2 : (n == ("__classdict__" : Str)) = false) (δ : Env) :
    ∀ (es : Uk.Es) (ps : List PySem.Expr), hdEs n f es ps = true → PA (X.suite a ((a, oe) :: pn)) ps (LHA X j a cls d fun x g => if x.cls = k then evs { c with cur := some x } es δ g else .bad)
  | .n, [], _ => ⟨fun pos pins s σ H Q I ⟨r, g, x, R, xr, hs, hp⟩ => by
      dsimp only at hp
      split at hp
      · exact pa_nil.run pos pins s σ H Q I (hp r [] H (.refl _ _) R (VRs.nil_iff.mpr rfl))
      · exact hp.elim⟩
  | .n, _ :: _, h => by cases h
  | .c _ _, [], h => by cases h
  | .c e es, p :: ps, h => by
    have h : (hdE n f e p && hdEs n f es ps) = true := h
    rw [Bool.and_eq_true] at h
    have P1 := hd_one (c := c) (pn := pn) (a := a) T gC hz hf hj hv hd1 hd2 δ e p h.1
    have P2 := hd_all T gC hz hf hj hv hd1 hd2 δ es ps h.2
    refine ⟨fun pos pins s σ H Q I ⟨r, g, x, R, xr, hs, hp⟩ => (pa_cons P1 P2 (star_plain (hdE_plain h.1))).run pos pins s σ H Q I ⟨r, g, x, R, xr, hs, ?_⟩⟩
    dsimp only at hp ⊢
    by_cases hx : x.cls = k
    · rw [if_pos hx] at hp ⊢
      have hp : PostA X.K X.mg X.w (fun _ _ _ => False) r H ((ev { c with cur := some x } e δ g).bind fun y g => (evs { c with cur := some x } es δ g).bind fun ys g => .ok (y :: ys) g) Q := hp
      cases hm : ev { c with cur := some x } e δ g with
      | bad => rw [hm] at hp; exact hp.elim
      | exc y g1 => rw [hm] at hp; exact hp
      | ok y g1 =>
        rw [hm] at hp
        have hp : PostA X.K X.mg X.w (fun _ _ _ => False) r H ((evs { c with cur := some x } es δ g1).bind fun ys g => .ok (y :: ys) g) Q := hp
        intro r1 v H1 x1 R1 q1
        refine ⟨r1, g1, x, R1, xr.mono x1, hs, ?_⟩
        dsimp only
        rw [if_pos hx]
        cases hm2 : evs { c with cur := some x } es δ g1 with
        | bad => rw [hm2] at hp; exact hp.elim
        | exc y g2 =>
          rw [hm2] at hp
          exact fun r' H' c d y R q => hp r' H' c d (x1.trans y) R q
        | ok ys g2 =>
          rw [hm2] at hp
          exact fun r' vs H' y R q => hp r' _ H' (x1.trans y) R (.cons (VR.mono y _ _ q1) q)
    · rw [if_neg hx] at hp
      exact hp.elim
end
end Uk
end
section
set_option Elab.async false
set_option linter.all false
set_option maxRecDepth 100000
set_option autoImplicit false
set_option maxHeartbeats 2000000
namespace Uk
open PySem PySem.Spec PyProof.Rows L2
theorem hdL_comp {n : Str} {f : String} {h : Uk.E} {p : PySem.Expr} (hh : hdL n f h p = true) : isComp p = false := by
  unfold hdL at hh
  split at hh
  · rfl
  · rcases hdE_inv hh with ⟨_, _, _, _, _, rfl, _⟩ | ⟨_, _, _, rfl⟩ <;> rfl
theorem hdE_noexc {c : Cx} {n : Str} {f : String} {h : Uk.E} {p : PySem.Expr} {δ : Env} {g g1 : G} {x y : Exn} (hh : hdE n f h p = true) : ev { c with cur := some x } h δ g ≠ .exc y g1 := by
  intro e
  rcases hdE_inv hh with ⟨dd, kk, l, pos, rfl, rfl, hh⟩ | ⟨p1, pos, rfl, rfl⟩
  · have e : Uk.R.ok dd g = .exc y g1 := e
    cases e
  · have e : (orElse (lookF f x.fs) fun v => Uk.R.ok v g) = .exc y g1 := e
    cases hl : lookF f x.fs with
    | none => rw [hl] at e; cases e
    | some w => rw [hl] at e; cases e
theorem hdEs_noexc {c : Cx} {n : Str} {f : String} {δ : Env} {x y : Exn} : ∀ {es : Uk.Es} {ps : List PySem.Expr} {g g1 : G}, hdEs n f es ps = true → evs { c with cur := some x } es δ g ≠ .exc y g1
  | .n, ps, g, g1, hh, e => by
    have e : Uk.R.ok ([] : List D) g = .exc y g1 := e
    cases e
  | .c h es, [], g, g1, hh, e => by cases hh
  | .c h es, p :: ps, g, g1, hh, e => by
    have hh : (hdE n f h p && hdEs n f es ps) = true := hh
    rw [Bool.and_eq_true] at hh
    have e : ((ev { c with cur := some x } h δ g).bind fun v g => (evs { c with cur := some x } es δ g).bind fun vs g => .ok (v :: vs) g) = .exc y g1 := e
    cases hm : ev { c with cur := some x } h δ g with
    | bad => rw [hm] at e; cases e
    | exc z g2 => exact hdE_noexc hh.1 hm
    | ok v g2 =>
      rw [hm] at e
      have e : ((evs { c with cur := some x } es δ g2).bind fun vs g => .ok (v :: vs) g) = .exc y g1 := e
      cases hm2 : evs { c with cur := some x } es δ g2 with
      | bad => rw [hm2] at e; cases e
      | exc z g3 => exact hdEs_noexc hh.2 hm2
      | ok vs g3 => rw [hm2] at e; cases e
theorem hdL_noexc {c : Cx} {n : Str} {f : String} {h : Uk.E} {p : PySem.Expr} {δ : Env} {g g1 : G} {x y : Exn} (hh : hdL n f h p = true) : ev { c with cur := some x } h δ g ≠ .exc y g1 := by
  unfold hdL at hh
  split at hh
  · intro e
    rename_i es ps pos
    have e : ((evs { c with cur := some x } es δ g).bind newL) = .exc y g1 := e
    cases hm : evs { c with cur := some x } es δ g with
    | bad => rw [hm] at e; cases e
    | exc z g2 => exact hdEs_noexc hh hm
    | ok vs g2 =>
      rw [hm] at e
      have e : newL vs g2 = .exc y g1 := e
      unfold newL at e
      split at e <;> cases e
  · exact hdE_noexc hh
section
variable {X : L2.Cx} {c : Cx} {C fI : Addr} {k f : String} {a : Addr} {oe : Obj} {cls : Value} {d : Option Addr} {pn : List (Addr × Obj)} {n : Str} {j : Nat}
theorem hd_exp (T : ExT X.K C fI f) (gC : X.mg (sS k) = some (.ref C)) (hz : Zc cls d oe) (hf : ∃ vs, oe.data = .fields vs)
    (hj : X.N[j]? = some n) (hv : Vis X.env.scope n) (hd1 : (n == ("__debug__" : Str)) = false) (hd2 : (n == ("__classdict__" : Str)) = false) (δ : Env)
    (h : Uk.E) (p : PySem.Expr) (hh : hdL n f h p = true) : PE (X.suite a ((a, oe) :: pn)) p (LH X j a cls d fun x g => if x.cls = k then ev { c with cur := some x } h δ g else .bad) := by
  unfold hdL at hh
  split at hh
  · rename_i es ps pos
    have P := pe_lst (pos := pos) (hd_all (c := c) (pn := pn) (a := a) T gC hz hf hj hv hd1 hd2 δ es ps hh)
    refine ⟨fun pins s σ H Q I ⟨r, g, x, R, xr, hs, hp⟩ => P.run pins s σ H Q I ⟨r, g, x, R, xr, hs, ?_⟩⟩
    dsimp only at hp ⊢
    by_cases hx : x.cls = k
    · rw [if_pos hx] at hp ⊢
      have hp : Post X.K X.mg X.w (fun _ _ _ => False) r H ((evs { c with cur := some x } es δ g).bind newL) Q := hp
      cases hm : evs { c with cur := some x } es δ g with
      | bad => rw [hm] at hp; exact hp.elim
      | exc y g1 => rw [hm] at hp; exact hp
      | ok ds g1 =>
        rw [hm] at hp
        have hp : Post X.K X.mg X.w (fun _ _ _ => False) r H (newL ds g1) Q := hp
        intro r1 vs H1 x1 R1 q
        have hp := hp.ext x1
        unfold newL at hp
        split at hp
        · rename_i hl
          exact ⟨by rw [q.length, ← line_eq]; exact hl, fun p hpn => hp.newLst R1 q hpn⟩
        · exact hp.elim
    · rw [if_neg hx] at hp
      exact hp.elim
  · exact hd_one T gC hz hf hj hv hd1 hd2 δ h p hh
/-- the handler's suite: name = one of these -/
def tHd (X : L2.Cx) (c : Cx) (j i : Nat) (h : Uk.E) (k : String) (a : Addr) (cls : Value) (d : Option Addr) : TS := fun Dn σ H => ∃ (r : List Addr) (g : G) (e : Env) (x : Exn), Rel X.K X.mg X.w r g H ∧ ER X.K r H e σ ∧ XR X.K X.mg r H x cls d ∧ σ[j]? = some (some (.ref a)) ∧ x.cls = k ∧
  PostS X.K X.mg X.w (fun _ _ _ => False) r H ((ev { c with cur := some x } h e g).bind fun v g => .ok (e.set i (some v), .nx) g) Dn
theorem hd_suite (T : ExT X.K C fI f) (gC : X.mg (sS k) = some (.ref C)) (hz : Zc cls d oe) (hf : ∃ vs, oe.data = .fields vs) (nd : X.N.Nodup)
    (hj : X.N[j]? = some n) (hv : Vis X.env.scope n) (hd1 : (n == ("__debug__" : Str)) = false) (hd2 : (n == ("__classdict__" : Str)) = false)
    {i : Nat} {y : Str} {py spos : Pos} {h : Uk.E} {p : PySem.Expr} (hi : X.N[i]? = some y) (hy : Loc X.env.scope y) (hfn : X.fn y = true ∨ X.env.scope.names.lookup y = some .local) (hh : hdL n f h p = true) :
    PSs (X.suite a ((a, oe) :: pn)) [.Assign [.Name y py] p spos] (tHd X c j i h k a cls d) := by
  refine pss_one ⟨fun pins s σ H Dn I ⟨r, g, e, x, R, er, xr, hs, hx, hp⟩ => ?_⟩
  have P := hd_exp (c := c) (pn := pn) (a := a) T gC hz hf hj hv hd1 hd2 e h p hh
  refine (ps_set (X := X.suite a ((a, oe) :: pn)) (pos' := py) (pos := spos) nd hi hy P (sw_plain (hdL_comp hh)) hfn).run pins s σ H Dn I ⟨r, g, x, R, xr, hs, ?_⟩
  dsimp only
  rw [if_pos hx]
  cases hm : ev { c with cur := some x } h e g with
  | bad => rw [hm] at hp; exact hp.elim
  | exc y g1 => rw [hm] at hp; exact hp
  | ok v g1 =>
    rw [hm] at hp
    have hp : PostS X.K X.mg X.w (fun _ _ _ => False) r H (.ok (e.set i (some v), .nx) g1) Dn := hp
    intro r1 w H1 x1 R1 q
    exact hp r1 _ H1 x1 R1 ((er.mono x1).set i q)
end
/-! ## The body of a try -/
def PostB (K : PySem.W.Frag) (mg : Str → Option Value) (wd : World) (W : XK) (r : List Addr) (H : Hp) (i : Option Nat) (e : Env) (m : Uk.R D) (Dn : Ends) : Prop := match m with
  | .ok d g => PostS K mg wd (fun _ _ _ => False) r H (.ok (setO i d e, .nx) g) Dn
  | .exc x g => ∀ r' H' cls dx, Ext r H r' H' → Rel K mg wd r' g H' → XR K mg r' H' x cls dx → W cls dx H'
  | .bad => False
def tBody (X : L2.Cx) (i : Option Nat) (m : Env → G → Uk.R D) (W : WX) : TS := fun Dn σ H => ∃ (r : List Addr) (g : G) (e : Env), Rel X.K X.mg X.w r g H ∧ ER X.K r H e σ ∧ PostB X.K X.mg X.w (fun cls d H => W cls d σ H) r H i e (m e g) Dn
section
variable {X : L2.Cx} {ck : Arguments → List Stmt → Scope → FDef → Bool} {c : Cx} {N : List String} {sc : Scope} {E : XK} {r : List Addr} {H : Hp} {g : G} {Dn : Ends} {σ : L2.St} {e : Env}
theorem XOk.tr (S : XS X ck c N sc E) {pn : List (Addr × Obj)} {xe : Value → Shared → Prop} {W : WX} (tk : Takes (X.tr pn xe) W) : XOk (X.tr pn xe) ck c N sc (WE W) where
  nm := S.o.nm
  nd := S.o.nd
  sc := S.o.sc
  calm := S.o.calm
  gf := S.o.gf
  lam := S.o.lam
  ar0 := S.o.ar0
  ar1 := S.o.ar1
  room := S.o.room
  pass := fun σ => passAt tk σ
/-- the body: a call alone, or name = a call -/
def bodyB (P : Pg) (N : List String) (sc : Scope) (i : Option Nat) (e : Uk.E) (st : Stmt) : Bool := match i, st with
  | none, .Expr p _ => !isComp p && ckE P N sc e p
  | some i, .Assign [.Name x _] p _ => !isComp p && ckE P N sc e p && tgB N sc i x
  | _, _ => false
theorem ok_body (HE : ∀ X sc (E : L2.St → XK), XOk X ck c N sc E → ∀ E, EqIns X c E) (S : XS X ck c N sc E) {i : Option Nat} {ex : Uk.E} {st : Stmt} (hb : bodyB c.P N sc i ex st = true) (W : WX) (pn : List (Addr × Obj)) (xe : Value → Shared → Prop) (tk : Takes (X.tr pn xe) W) :
    PSs (X.tr pn xe) [st] (tBody X i (ev c ex) W) := by
  have O := XOk.tr S tk
  unfold bodyB at hb
  split at hb
  · rename_i p pos
    rw [Bool.and_eq_true, Bool.not_eq_true'] at hb
    have P := (okE HE ex (X.tr pn xe) sc (WE W) p O hb.2).pe
    refine pss_one ⟨fun pins s σ H Dn I ⟨r, g, e, R, er, hp⟩ => (ps_expr (pos := pos) P (sw_plain hb.1)).run pins s σ H Dn I ⟨r, g, e, R, er, ?_⟩⟩
    cases hm : ev c ex e g with
    | bad => rw [hm] at hp; exact hp.elim
    | exc y g1 => rw [hm] at hp; exact hp
    | ok v g1 =>
      rw [hm] at hp
      exact fun r1 w H1 x1 R1 q => hp r1 σ H1 x1 R1 (er.mono x1)
  · rename_i i x py p pos
    simp only [Bool.and_eq_true, Bool.not_eq_true'] at hb
    have P := (okE HE ex (X.tr pn xe) sc (WE W) p O hb.1.2).pe
    obtain ⟨h1, h2, h3⟩ := tgB_get S.o.nm S.tg hb.2
    refine pss_one ⟨fun pins s σ H Dn I ⟨r, g, e, R, er, hp⟩ => (ps_set (X := X.tr pn xe) (pos' := py) (pos := pos) S.o.nd h1 h2 P (sw_plain hb.1.1) h3).run pins s σ H Dn I ⟨r, g, e, R, er, ?_⟩⟩
    cases hm : ev c ex e g with
    | bad => rw [hm] at hp; exact hp.elim
    | exc y g1 => rw [hm] at hp; exact hp
    | ok v g1 =>
      rw [hm] at hp
      exact fun r1 w H1 x1 R1 q => hp r1 _ H1 x1 R1 ((er.mono x1).set i q)
  · cases hb
/-- one clause, with a name -/
theorem ok_try1 (HE : ∀ X sc (E : L2.St → XK), XOk X ck c N sc E → ∀ E, EqIns X c E) (S : XS X ck c N sc E) {i : Option Nat} {ex : Uk.E} {st : Stmt} (hb : bodyB c.P N sc i ex st = true) {k f : String} {j i2 : Nat} {h : Uk.E} {n y : Str} {np py spos pos' pos : Pos} {q : PySem.Expr}
    (hk : c.P.exn k = some (some f)) (hg : glB sc (sS k) = true) (hjn : ckN N j n = true) (hln : sc.names.lookup n = some .local) (hnm : nmB n = true) (ht : tgB N sc i2 y = true) (hij : i2 ≠ j) (hh : hdL n f h q = true) :
    PS X (.Try [st] [.ExceptHandler (some (.Name (sS k) np)) (some n) [.Assign [.Name y py] q spos] pos'] [] [] pos) (LS X E (exe c (.try_ i ex (.c k (some j) (.c (.asg i2 h) .n) .n)))) := by
  obtain ⟨C, fI, gC, T, FN⟩ := S.o.gf.exn k f hk
  obtain ⟨gl, nd, _⟩ := pe_callD.gl_of S.o hg
  obtain ⟨a1, a2, a3⟩ := tgB_get S.o.nm S.tg ht
  have hjN : X.N[j]? = some n := by
    unfold ckN at hjn
    split at hjn
    · rename_i s hs
      rw [S.o.nm, List.getElem?_map, hs, ← of_decide_eq_true hjn]
      rfl
    · cases hjn
  have hl : X.env.kindOf n = some .local := by
    show X.env.scope.names.lookup n = _
    rw [S.o.sc]
    exact hln
  unfold nmB at hnm
  simp only [Bool.and_eq_true, Bool.not_eq_true'] at hnm
  refine ⟨fun pins s σ H Dn I ⟨r, g, e, R, er, hp⟩ => (ps_try_as (np := np) (pos := pos) (pos' := pos') S.hs S.hf S.o.nd hjN hl (c := .ref C) ⟨gl, nd, .inl gC⟩ S.tk (fun W pn xe tk _ => ok_body HE S hb W pn xe tk)
    (fun a oe cls d pn hz hf => hd_suite (c := c) (py := py) (spos := spos) T gC hz hf S.o.nd hjN (.inl hl) hnm.1.1 hnm.1.2 a1 a2 a3 hh)).run pins s σ H Dn I ?_⟩
  refine ⟨r, g, e, R, er, ?_⟩
  have hp : PostS X.K X.mg X.w E r H (match ev c ex e g with
    | .ok x g => .ok (setO i x e, .nx) g
    | .exc x g => exh c x (.c k (some j) (.c (.asg i2 h) .n) .n) e g
    | .bad => .bad) Dn := hp
  cases hm : ev c ex e g with
  | bad => rw [hm] at hp; exact hp.elim
  | ok v g1 =>
    rw [hm] at hp
    exact hp
  | exc x g1 =>
    rw [hm] at hp
    have hp : PostS X.K X.mg X.w E r H (exh c x (.c k (some j) (.c (.asg i2 h) .n) .n) e g1) Dn := hp
    intro r' H' cls dx x1 R1 xr
    unfold exh at hp
    split at hp
    · exact hp.elim
    · rename_i hsome
      obtain ⟨f2, hf2⟩ : ∃ f2, c.P.exn x.cls = some f2 := by
        cases hz : c.P.exn x.cls with
        | none => rw [hz] at hsome; exact absurd rfl hsome
        | some z => exact ⟨z, rfl⟩
      have xr' := xr
      obtain ⟨C2, g2, ec, _⟩ := xr'
      refine ⟨x.cls == k, ?_, fun hb1 a ha => ?_, fun hb1 => ?_⟩
      · rw [ec]
        exact S.o.gf.exm x.cls k f2 (some f) C2 C hf2 hk g2 gC
      · have hx : x.cls = k := eq_of_beq hb1
        rw [if_pos hx] at hp
        have hlen : j < σ.length := by
          have h1 : σ.length = X.N.length := I.len
          rw [h1]
          exact (List.getElem?_eq_some_iff.mp hjN).1
        refine ⟨r', g1, e.set j none, x, R1, ?_, xr, by rw [List.getElem?_set_self hlen], hx, ?_⟩
        · refine ⟨by simp [er.1], fun i' d' z => ?_⟩
          by_cases hi : i' = j
          · subst hi
            rw [List.getElem?_set_self (by have := (List.getElem?_eq_some_iff.mp z).1; simpa using this)] at z
            cases z
          · rw [List.getElem?_set_ne (Ne.symm hi)] at z ⊢
            exact (er.mono x1).2 i' d' z
        · have hp : PostS X.K X.mg X.w E r H ((exs { c with cur := some x } (.c (.asg i2 h) .n) (e.set j none) g1).bind fun z g => .ok (z.1.set j none, z.2) g) Dn := hp
          have e1 : exs { c with cur := some x } (.c (.asg i2 h) .n) (e.set j none) g1 = (ev { c with cur := some x } h (e.set j none) g1).bind fun v g => .ok ((e.set j none).set i2 (some v), .nx) g := by
            show (((ev { c with cur := some x } h (e.set j none) g1).bind fun v g => (.ok ((e.set j none).set i2 (some v), Fl.nx) g : RS)).bind _) = _
            cases ev { c with cur := some x } h (e.set j none) g1 <;> rfl
          rw [e1] at hp
          cases hm2 : ev { c with cur := some x } h (e.set j none) g1 with
          | bad => rw [hm2] at hp; exact hp.elim
          | exc y g2 => exact absurd hm2 (hdL_noexc hh)
          | ok v g2 =>
            rw [hm2] at hp
            have hp : PostS X.K X.mg X.w E r H (.ok (((e.set j none).set i2 (some v)).set j none, .nx) g2) Dn := hp
            intro r2 σ2 H2 x2 R2 er2
            exact hp r2 _ H2 (x1.trans x2) R2 (er2.unset j)
      · have hx : x.cls ≠ k := by
          intro z
          rw [z] at hb1
          simp at hb1
        rw [if_neg hx] at hp
        have hp : PostS X.K X.mg X.w E r H (.exc x g1) Dn := hp
        exact hp r' H' cls dx x1 R1 xr
end
end Uk
end
section
set_option Elab.async false
set_option linter.all false
set_option maxRecDepth 100000
set_option autoImplicit false
set_option maxHeartbeats 2000000
/-! ## Several except clauses, each with a name or without one -/
namespace Uk
open PySem PySem.Spec PyProof.Rows L2
abbrev ClT := Option Nat × Value × (Addr → Value → Option Addr → TS)
/-- the ends, the name's slot emptied -/
def unD (i : Nat) (D : Ends) : Ends := { nx := fun σ H => D.nx (σ.set i none) H, rt := D.rt, bk := fun σ H => D.bk (σ.set i none) H, ct := fun σ H => D.ct (σ.set i none) H }
def wCl (K : PySem.W.Frag) (Wout : WX) (D : Ends) : List ClT → WX
  | [] => Wout
  | (none, c, ts) :: r => fun cls d σ H => ∃ b, PySem.W.exmOne K cls c = some b ∧ (b = true → ∀ a, H a = none → ts a cls d D σ H) ∧ (b = false → wCl K Wout D r cls d σ H)
  | (some i, c, ts) :: r => fun cls d σ H => ∃ b, PySem.W.exmOne K cls c = some b ∧ (b = true → ∀ a, H a = none → ts a cls d (unD i D) (σ.set i (some (.ref a))) H) ∧ (b = false → wCl K Wout D r cls d σ H)
inductive ClOk (X : L2.Cx) : List ExceptHandler → List ClT → Prop
  | nil : ClOk X [] []
  | plain {x : Str} {c : Value} {ts : Addr → Value → Option Addr → TS} {st : Stmt} {sts : List Stmt} {p1 p2 : Pos} {hds : List ExceptHandler} {l : List ClT} (hc : Names X x c)
      (hsu : ∀ (a : Addr) (oe : Obj) (cls : Value) (d : Option Addr) (pn : List (Addr × Obj)), Zc cls d oe → (∃ vs, oe.data = .fields vs) → PSs (X.suite a ((a, oe) :: pn)) (st :: sts) (ts a cls d)) (r : ClOk X hds l) :
      ClOk X (.ExceptHandler (some (.Name x p1)) none (st :: sts) p2 :: hds) ((none, c, ts) :: l)
  | named {x n : Str} {i : Nat} {c : Value} {ts : Addr → Value → Option Addr → TS} {st : Stmt} {sts : List Stmt} {p1 p2 : Pos} {hds : List ExceptHandler} {l : List ClT} (hi : X.N[i]? = some n) (hln : X.env.kindOf n = some .local) (hc : Names X x c)
      (hsu : ∀ (a : Addr) (oe : Obj) (cls : Value) (d : Option Addr) (pn : List (Addr × Obj)), Zc cls d oe → (∃ vs, oe.data = .fields vs) → PSs (X.suite a ((a, oe) :: pn)) (st :: sts) (ts a cls d)) (r : ClOk X hds l) :
      ClOk X (.ExceptHandler (some (.Name x p1)) (some n) (st :: sts) p2 :: hds) ((some i, c, ts) :: l)
section
variable {X : L2.Cx} {body : List Stmt} {h0 : ExceptHandler} {hds : List ExceptHandler} {l : List ClT} {pos : Pos} {tb : WX → TS} {Wout : WX}
theorem ps_try_cl (hs : X.stack = X.env :: X.outer) (hf : X.env.frame = some X.env.locals) (hN : X.N.Nodup) (tk : Takes X Wout)
    (hb : ∀ (W : WX) (pn : List (Addr × Obj)) (xe : Value → Shared → Prop), Takes (X.tr pn xe) W → PassesOwn (model X.prog X.w) X.A X.env xe → PSs (X.tr pn xe) body (tb W))
    (hh : ClOk X (h0 :: hds) l) : PS X (.Try body (h0 :: hds) [] [] pos) (fun D σ H => tb (wCl X.K Wout D l) D σ H) := by
  refine ⟨fun pins s σ H D I h => ?_⟩
  have ok := I.ok
  have hfr : X.A.frames = some (X.env :: X.outer) := by rw [ok.frames, hs]
  refine wpAny_Try_except ?_
  refine wpAny_mono ((hb (wCl X.K Wout D l) (X.pn ++ pins) (fun e s1 => wpAny (model X.prog X.w) X.A (noteFrame e X.env) (fun _ s2 => wpAny (model X.prog X.w) X.A (setFlight e none) (fun _ s3 =>
    wpAny (model X.prog X.w) X.A (handleBy e X.env (h0 :: hds)) (SP X pins D) X.xe s3) X.xe s2) X.xe s1) (fun u s' xx => ?_) PassesOwn.looking).run [] s σ H D (I.toTry _) h) (fun f s1 hsp => ?_) (fun e s1 he => he)
  · obtain ⟨a, B, sI, pins', σ', H', cls, d, rfl, J', nb, up, sky, na, os, ag, w⟩ := xx
    have J : Inv X pins σ' H' sI := J'.ofTry ok
    have sky' : Sky B (X.env :: X.outer) a (Zc cls d) X.env.locals s'.heap := by rw [← hs]; exact sky
    show wpAny (model X.prog X.w) X.A (noteFrame (.ref a) X.env) _ _ _
    refine Sky.land Zc.steady hfr hf sky' fun h3 fl3 up3 => ?_
    have J3 : Inv X pins σ' H' { s' with heap := h3 } := J.landed nb fl3.1 (up.trans up3) os ag
    obtain ⟨oe3, vs3, he3, hz3, hd3⟩ := fl3.there
    have nfr : a ∉ frs (X.env :: X.outer) := fun hm => by
      obtain ⟨_, o', e', hnf⟩ := fl3.2.2.1.mem hm
      rw [he3] at e'
      cases e'
      exact hnf _ hd3
    have nL : a ≠ X.env.locals := fun z => nfr (List.mem_filterMap.mpr ⟨X.env, List.mem_cons_self, by rw [hf, z]⟩)
    have nF : a ∉ X.fs := fun hm => by
      obtain ⟨e, he, q⟩ := List.mem_filterMap.mp hm
      exact nfr (List.mem_filterMap.mpr ⟨e, List.mem_cons_of_mem _ he, q⟩)
    have S3 := J3.suite he3 hd3 na nL nF
    have test : ∀ {x : Str} {np : Pos} {c : Value}, Names X x c → ∀ {Q : Value → Shared → Prop} {E : Value → Shared → Prop}, Q c { s' with heap := h3 } → wpAny (model X.prog X.w) (X.A.mark (some (.ref a))) (eval (.Name x np) X.env) Q E { s' with heap := h3 } := fun {x np c} hc {Q E} q => by
      obtain ⟨hg, hdbg, hm | ⟨hm, hv, hnn⟩⟩ := hc
      · exact ld_glob (X := X.suite a ((a, oe3) :: (X.pn ++ pins))) S3 hg hm q hdbg
      · exact ld_blt (X := X.suite a ((a, oe3) :: (X.pn ++ pins))) S3 hg hm hv q hnn hdbg
    have LT : PySem.W.Looks (model X.prog X.w) h3 (typeOf (.ref a)) cls := fun A Q E s k q => wpAny_typeOf_ref (k _ _ he3) (by rw [hz3.1]; exact q)
    have go : ∀ {hds' : List ExceptHandler} {l' : List ClT}, ClOk X hds' l' → wCl X.K Wout D l' cls d σ' H' →
        wpAny (model X.prog X.w) X.A (handleBy (.ref a) X.env hds') (SP X pins D) X.xe { s' with heap := h3 } := by
      intro hds' l' hk
      induction hk with
      | nil =>
        intro w
        refine wpAny_handleBy_nil ?_
        obtain ⟨k1, k2, k3, oe, vs, T, oT, ts', he, hz, hd, h1, hr⟩ := id fl3
        unfold PySem.passOn
        refine wpAny_bind (wpAny_field he hd h1 ?_)
        rw [if_neg (show ¬ ((Value.ref T == Value.none) = true) from by simp)]
        have fin : wpAny (model X.prog X.w) X.A (setFlight (.ref a) X.env.frame) (fun _ s4 => wpAny (model X.prog X.w) X.A (throw (.ref a) : Sem Flow) (SP X pins D) X.xe s4) X.xe { s' with heap := h3 } := by
          rw [hf]
          refine HandSPX.setFlight_upZ fl3 fun h4 hh4 up4 => wpAny_throw (tk _ _ ?_)
          exact ⟨a, B, sI, pins, σ', H', cls, d, rfl, J, nb, (up.trans up3).trans up4, .inr (.inr (by rw [hs]; exact hh4)), na, os, ag, w⟩
        first
          | exact wpAny_bind (wpAny_pure (wpAny_bind fin))
          | exact wpAny_bind fin
      | @plain x c ts st sts p1 p2 hds2 l2 hc hsu r ih =>
        intro w
        obtain ⟨b, hb1, hyes, hno⟩ := w
        have LM := PySem.W.exm_one (M := model X.prog X.w) (J3.kIn) LT hb1
        refine wpAny_handleBy_cons (codeAny_handlers_test ?_) (by intro q; cases q)
        refine test hc (LM.here ?_)
        cases b with
        | false => exact ih (hno rfl)
        | true =>
          refine codeAny_handlers_suite ?_
          refine HandSPX.lands_againZ fl3 fun h4 fl4 up4 => ?_
          have J4 : Inv X pins σ' H' { s' with heap := h4 } := J.landed nb fl4.1 ((up.trans up3).trans up4) os ag
          obtain ⟨oe4, vs4, he4, hz4, hd4⟩ := fl4.there
          have S4 := J4.suite he4 hd4 na nL nF
          refine wpAny_mono ((hsu a oe4 cls d (X.pn ++ pins) hz4 ⟨_, hd4⟩).run [] _ _ H' _ S4 (hyes rfl a na)) (fun f s6 hsp => ?_) (fun _ _ z => False.elim z)
          cases f with
          | next => obtain ⟨σ6, H6, S6, q6⟩ := hsp; exact ⟨_, _, S6.unsuite ok, q6⟩
          | brk => obtain ⟨σ6, H6, S6, q6⟩ := hsp; exact ⟨_, _, S6.unsuite ok, q6⟩
          | cont => obtain ⟨σ6, H6, S6, q6⟩ := hsp; exact ⟨_, _, S6.unsuite ok, q6⟩
          | ret u => obtain ⟨v6, σ6, H6, S6, r6, q6⟩ := hsp; exact ⟨_, _, _, S6.unsuite ok, r6, q6⟩
      | @named x n i c ts st sts p1 p2 hds2 l2 hi hln hc hsu r ih =>
        intro w
        obtain ⟨b, hb1, hyes, hno⟩ := w
        have hloc : Loc X.env.scope n := .inl hln
        have LM := PySem.W.exm_one (M := model X.prog X.w) (J3.kIn) LT hb1
        refine wpAny_handleBy_cons (codeAny_handlers_test ?_) (by intro q; cases q)
        refine test hc (LM.here ?_)
        cases b with
        | false => exact ih (hno rfl)
        | true =>
          refine codeAny_handlers_suite_as ?_
          refine HandSPX.lands_againZ fl3 fun h4 fl4 up4 => ?_
          have J4 : Inv X pins σ' H' { s' with heap := h4 } := J.landed nb fl4.1 ((up.trans up3).trans up4) os ag
          obtain ⟨oe4, vs4, he4, hz4, hd4⟩ := fl4.there
          have S4 := J4.suite he4 hd4 na nL nF
          refine store_ok (X := X.suite a ((a, oe4) :: (X.pn ++ pins))) (v := .ref a) S4 hN hi hloc rfl (fun s5 S5 => ?_) (.inr hln)
          refine wpAny_mono ((hsu a oe4 cls d (X.pn ++ pins) hz4 ⟨_, hd4⟩).run [] s5 _ H' _ S5 (hyes rfl a na)) (fun f s6 hsp => ?_) (fun _ _ z => False.elim z)
          have end_ : ∀ {σ6 : L2.St} {H6 : Hp} {Q : Shared → Prop}, Inv (X.suite a ((a, oe4) :: (X.pn ++ pins))) [] σ6 H6 s6 → (∀ s7, Inv X pins (σ6.set i none) H6 s7 → Q s7) →
              wpAny (model X.prog X.w) X.A (do bindName X.env n .none; unbindBehindTheSuite X.env n p2) (fun _ s7 => Q s7) X.xe s6 := fun {σ6 H6 Q} S6 hq => gone_ok (S6.unsuite ok) hN hi hln hq
          cases f with
          | next => obtain ⟨σ6, H6, S6, q6⟩ := hsp; exact end_ S6 fun s7 J7 => ⟨_, _, J7, q6⟩
          | brk => obtain ⟨σ6, H6, S6, q6⟩ := hsp; exact end_ S6 fun s7 J7 => ⟨_, _, J7, q6⟩
          | cont => obtain ⟨σ6, H6, S6, q6⟩ := hsp; exact end_ S6 fun s7 J7 => ⟨_, _, J7, q6⟩
          | ret u => obtain ⟨v6, σ6, H6, S6, r6, q6⟩ := hsp; exact end_ S6 fun s7 J7 => ⟨_, _, _, J7, r6, q6⟩
    exact go hh w
  · cases f with
    | next => obtain ⟨σ', H', J', q⟩ := hsp; exact wpAny_execs_nil ⟨σ', H', J'.ofTry ok, q⟩
    | brk => obtain ⟨σ', H', J', q⟩ := hsp; exact ⟨σ', H', J'.ofTry ok, q⟩
    | cont => obtain ⟨σ', H', J', q⟩ := hsp; exact ⟨σ', H', J'.ofTry ok, q⟩
    | ret u => obtain ⟨v, σ', H', J', r, q⟩ := hsp; exact ⟨v, σ', H', J'.ofTry ok, r, q⟩
end
end Uk
end
section
set_option Elab.async false
set_option linter.all false
set_option maxRecDepth 100000
set_option autoImplicit false
set_option maxHeartbeats 2000000
/-! ## Two except clauses: the first with a name, the second a constant's -/
namespace Uk
open PySem PySem.Spec PyProof.Rows L2
section
variable {X : L2.Cx} {ck : Arguments → List Stmt → Scope → FDef → Bool} {c : Cx} {N : List String} {sc : Scope} {E : XK} {r : List Addr} {H : Hp} {g : G} {Dn : Ends} {σ : L2.St} {e : Env}
/-- the suite: name = a constant -/
def tHd2 (X : L2.Cx) (i : Nat) (dd : D) (k : String) (cls : Value) (d : Option Addr) : TS := fun Dn σ H => ∃ (r : List Addr) (g : G) (e : Env) (x : Exn), Rel X.K X.mg X.w r g H ∧ ER X.K r H e σ ∧ XR X.K X.mg r H x cls d ∧ x.cls = k ∧
  PostS X.K X.mg X.w (fun _ _ _ => False) r H (.ok (e.set i (some dd), .nx) g) Dn
theorem hd_suite2 {a : Addr} {oe : Obj} {cls : Value} {d : Option Addr} {pn : List (Addr × Obj)} (nd : X.N.Nodup) {i : Nat} {y : Str} {py spos cpos : Pos} {dd : D} {kk : Const} {l : Nat} {k : String} (hi : X.N[i]? = some y) (hy : Loc X.env.scope y) (hfn : X.fn y = true ∨ X.env.scope.names.lookup y = some .local) (hh : ckC dd kk = true) :
    PSs (X.suite a ((a, oe) :: pn)) [.Assign [.Name y py] (.Constant kk l cpos) spos] (tHd2 X i dd k cls d) := by
  refine pss_one ⟨fun pins s σ H Dn I ⟨r, g, e, x, R, er, xr, hx, hp⟩ => ?_⟩
  obtain ⟨v, hv1, hv2⟩ := cst_v (X := X.suite a ((a, oe) :: pn)) (j := l) (pos := cpos) hh
  refine (ps_set (X := X.suite a ((a, oe) :: pn)) (pos' := py) (pos := spos) nd hi hy hv1 (sw_plain rfl) hfn).run pins s σ H Dn I ?_
  exact hp r _ H (.refl _ _) R (er.set i (hv2 _ r H))
theorem ok_try2 (HE : ∀ X sc (E : L2.St → XK), XOk X ck c N sc E → ∀ E, EqIns X c E) (S : XS X ck c N sc E) {i : Option Nat} {ex : Uk.E} {st : Stmt} (hb : bodyB c.P N sc i ex st = true) {k f : String} {j i2 : Nat} {h : Uk.E} {n y : Str} {np py spos pos' pos : Pos} {q : PySem.Expr}
    (hk : c.P.exn k = some (some f)) (hg : glB sc (sS k) = true) (hjn : ckN N j n = true) (hln : sc.names.lookup n = some .local) (hnm : nmB n = true) (ht : tgB N sc i2 y = true) (hij : i2 ≠ j) (hh : hdL n f h q = true)
    {k2 f2 : String} {i3 : Nat} {y2 : Str} {np2 py2 spos2 pos2 cpos : Pos} {dd : D} {kk : Const} {l : Nat} (hk2 : c.P.exn k2 = some (some f2)) (hg2 : glB sc (sS k2) = true) (ht2 : tgB N sc i3 y2 = true) (hh2 : ckC dd kk = true) :
    PS X (.Try [st] [.ExceptHandler (some (.Name (sS k) np)) (some n) [.Assign [.Name y py] q spos] pos', .ExceptHandler (some (.Name (sS k2) np2)) none [.Assign [.Name y2 py2] (.Constant kk l cpos) spos2] pos2] [] [] pos) (LS X E (exe c (.try_ i ex (.c k (some j) (.c (.asg i2 h) .n) (.c k2 none (.c (.asg i3 (.cst dd)) .n) .n))))) := by
  obtain ⟨C, fI, gC, T, FN⟩ := S.o.gf.exn k f hk
  obtain ⟨C2, fI2, gC2, T2, FN2⟩ := S.o.gf.exn k2 f2 hk2
  obtain ⟨gl, nd, _⟩ := pe_callD.gl_of S.o hg
  obtain ⟨gl2, nd2, _⟩ := pe_callD.gl_of S.o hg2
  obtain ⟨a1, a2, a3⟩ := tgB_get S.o.nm S.tg ht
  obtain ⟨b1, b2, b3⟩ := tgB_get S.o.nm S.tg ht2
  have hjN : X.N[j]? = some n := by
    unfold ckN at hjn
    split at hjn
    · rename_i s hs
      rw [S.o.nm, List.getElem?_map, hs, ← of_decide_eq_true hjn]
      rfl
    · cases hjn
  have hl : X.env.kindOf n = some .local := by
    show X.env.scope.names.lookup n = _
    rw [S.o.sc]
    exact hln
  unfold nmB at hnm
  simp only [Bool.and_eq_true, Bool.not_eq_true'] at hnm
  have cl : ClOk X [.ExceptHandler (some (.Name (sS k) np)) (some n) [.Assign [.Name y py] q spos] pos', .ExceptHandler (some (.Name (sS k2) np2)) none [.Assign [.Name y2 py2] (.Constant kk l cpos) spos2] pos2]
      [(some j, .ref C, tHd X c j i2 h k), (none, .ref C2, fun _ cls d => tHd2 X i3 dd k2 cls d)] :=
    .named hjN hl ⟨gl, nd, .inl gC⟩ (fun a oe cls d pn hz hf => hd_suite (c := c) (py := py) (spos := spos) T gC hz hf S.o.nd hjN (.inl hl) hnm.1.1 hnm.1.2 a1 a2 a3 hh)
      (.plain ⟨gl2, nd2, .inl gC2⟩ (fun a oe cls d pn hz hf => hd_suite2 S.o.nd b1 b2 b3 hh2) .nil)
  refine ⟨fun pins s σ H Dn I ⟨r, g, e, R, er, hp⟩ => (ps_try_cl (pos := pos) S.hs S.hf S.o.nd S.tk (fun W pn xe tk _ => ok_body HE S hb W pn xe tk) cl).run pins s σ H Dn I ?_⟩
  refine ⟨r, g, e, R, er, ?_⟩
  have hp : PostS X.K X.mg X.w E r H (match ev c ex e g with
    | .ok x g => .ok (setO i x e, .nx) g
    | .exc x g => exh c x (.c k (some j) (.c (.asg i2 h) .n) (.c k2 none (.c (.asg i3 (.cst dd)) .n) .n)) e g
    | .bad => .bad) Dn := hp
  cases hm : ev c ex e g with
  | bad => rw [hm] at hp; exact hp.elim
  | ok v g1 =>
    rw [hm] at hp
    exact hp
  | exc x g1 =>
    rw [hm] at hp
    have hp : PostS X.K X.mg X.w E r H (exh c x (.c k (some j) (.c (.asg i2 h) .n) (.c k2 none (.c (.asg i3 (.cst dd)) .n) .n)) e g1) Dn := hp
    intro r' H' cls dx x1 R1 xr
    unfold exh at hp
    split at hp
    · exact hp.elim
    · rename_i hsome
      obtain ⟨f3, hf3⟩ : ∃ f3, c.P.exn x.cls = some f3 := by
        cases hz : c.P.exn x.cls with
        | none => rw [hz] at hsome; exact absurd rfl hsome
        | some z => exact ⟨z, rfl⟩
      have xr' := xr
      obtain ⟨C3, g3, ec, _⟩ := xr'
      refine ⟨x.cls == k, ?_, fun hb1 a ha => ?_, fun hb1 => ?_⟩
      · rw [ec]
        exact S.o.gf.exm x.cls k f3 (some f) C3 C hf3 hk g3 gC
      · have hx : x.cls = k := eq_of_beq hb1
        rw [if_pos hx] at hp
        have hlen : j < σ.length := by
          have h1 : σ.length = X.N.length := I.len
          rw [h1]
          exact (List.getElem?_eq_some_iff.mp hjN).1
        refine ⟨r', g1, e.set j none, x, R1, ?_, xr, by rw [List.getElem?_set_self hlen], hx, ?_⟩
        · refine ⟨by simp [er.1], fun i' d' z => ?_⟩
          by_cases hi : i' = j
          · subst hi
            rw [List.getElem?_set_self (by have := (List.getElem?_eq_some_iff.mp z).1; simpa using this)] at z
            cases z
          · rw [List.getElem?_set_ne (Ne.symm hi)] at z ⊢
            exact (er.mono x1).2 i' d' z
        · have hp : PostS X.K X.mg X.w E r H ((exs { c with cur := some x } (.c (.asg i2 h) .n) (e.set j none) g1).bind fun z g => .ok (z.1.set j none, z.2) g) Dn := hp
          have e1 : exs { c with cur := some x } (.c (.asg i2 h) .n) (e.set j none) g1 = (ev { c with cur := some x } h (e.set j none) g1).bind fun v g => .ok ((e.set j none).set i2 (some v), .nx) g := by
            show (((ev { c with cur := some x } h (e.set j none) g1).bind fun v g => (.ok ((e.set j none).set i2 (some v), Fl.nx) g : RS)).bind _) = _
            cases ev { c with cur := some x } h (e.set j none) g1 <;> rfl
          rw [e1] at hp
          cases hm2 : ev { c with cur := some x } h (e.set j none) g1 with
          | bad => rw [hm2] at hp; exact hp.elim
          | exc y g2 => exact absurd hm2 (hdL_noexc hh)
          | ok v g2 =>
            rw [hm2] at hp
            have hp : PostS X.K X.mg X.w E r H (.ok (((e.set j none).set i2 (some v)).set j none, .nx) g2) Dn := hp
            intro r2 σ2 H2 x2 R2 er2
            exact hp r2 _ H2 (x1.trans x2) R2 (er2.unset j)
      · have hx : x.cls ≠ k := by
          intro z
          rw [z] at hb1
          simp at hb1
        rw [if_neg hx] at hp
        have hp : PostS X.K X.mg X.w E r H (exh c x (.c k2 none (.c (.asg i3 (.cst dd)) .n) .n) e g1) Dn := hp
        unfold exh at hp
        rw [if_neg hsome] at hp
        refine ⟨x.cls == k2, ?_, fun hb2 a ha => ?_, fun hb2 => ?_⟩
        · rw [ec]
          exact S.o.gf.exm x.cls k2 f3 (some f2) C3 C2 hf3 hk2 g3 gC2
        · have hx2 : x.cls = k2 := eq_of_beq hb2
          rw [if_pos hx2] at hp
          refine ⟨r', g1, e, x, R1, er.mono x1, xr, hx2, ?_⟩
          have hp : PostS X.K X.mg X.w E r H (.ok (e.set i3 (some dd), .nx) g1) Dn := hp
          intro r2 σ2 H2 x2 R2 er2
          exact hp r2 σ2 H2 (x1.trans x2) R2 er2
        · have hx2 : x.cls ≠ k2 := by
            intro z
            rw [z] at hb2
            simp at hb2
          rw [if_neg hx2] at hp
          have hp : PostS X.K X.mg X.w E r H (.exc x g1) Dn := hp
          exact hp r' H' cls dx x1 R1 xr
end
end Uk
end
section
set_option Elab.async false
set_option linter.all false
set_option maxRecDepth 100000
set_option autoImplicit false
set_option maxHeartbeats 2000000
namespace Uk
open PySem PySem.Spec PyProof.Rows L2
/-! ## Is this suite that one? -/
def compOf (e : Uk.E) : Bool := match e with
  | .comp _ _ _ _ _ => true
  | .dco _ _ _ _ _ _ => true
  | _ => false
mutual
def ckS (P : Pg) (N : List String) (sc : Scope) : S → Stmt → Bool
  | .asg i e, .Assign [.Name x _] p _ => tgB N sc i x && ckE P N sc e p && (isComp p == compOf e)
  | .fld o f e, .Assign [.Attribute po x _] p _ => decide (sS f = x) && ckE P N sc o po && ckE P N sc e p
  | .sub o i e, .Assign [.Subscript po pi _] p _ => ckE P N sc o po && ckE P N sc i pi && ckE P N sc e p
  | .unp l e, .Assign [.Tuple ps _ _] p _ => ckTs N sc l ps && !isTup p && ckE P N sc e p
  | .par i j a b, .Assign [.Tuple [.Name x px, .Name y py] _ _] (.Tuple [pa, pb] _ _) _ => ckN N i x && ckN N j y && !(i == j) && parB sc x y px py pa pb && ckE P N sc a pa && ckE P N sc b pb
  | .ife t a b, .If p A B _ => ckE P N sc t p && ckSs P N sc a A && ckSs P N sc b B
  | .for_ t it b, .For pt pi B [] _ => ckT N sc t pt && tgFor it t && ckI P N sc it pi && ckSs P N sc b B
  | .forD t e b, .For pt pi B [] _ => ckT N sc t pt && ckE P N sc e pi && ckSs P N sc b B
  | .while_ t b, .While p B [] _ => ckE P N sc t p && ckSs P N sc b B
  | .ret e, .Return (some p) _ => ckE P N sc e p
  | .retN, .Return none _ => true
  | .ex e, .Expr p _ => !isComp p && ckE P N sc e p
  | .pass, .Pass _ => true
  | .rai k (.c e .n), .Raise (some (.Call (.Name x _) [p] [] _)) none _ => decide (sS k = x) && glB sc x && (match P.exn k with
    | some (some _) => true
    | _ => false) && ckE P N sc e p
  | .try_ i e (.c k (some j) (.c (.asg i2 h) .n) .n), .Try [st] [.ExceptHandler (some (.Name x _)) (some n) [.Assign [.Name y _] q _] _] [] [] _ =>
    bodyB P N sc i e st && decide (sS k = x) && glB sc x && ckN N j n && decide (sc.names.lookup n = some .local) && nmB n && tgB N sc i2 y && !(i2 == j) && (match P.exn k with
    | some (some f) => hdL n f h q
    | _ => false)
  | .try_ i e (.c k (some j) (.c (.asg i2 h) .n) (.c k2 none (.c (.asg i3 (.cst dd)) .n) .n)), .Try [st] [.ExceptHandler (some (.Name x _)) (some n) [.Assign [.Name y _] q _] _, .ExceptHandler (some (.Name x2 _)) none [.Assign [.Name y2 _] (.Constant kk _ _) _] _] [] [] _ =>
    bodyB P N sc i e st && decide (sS k = x) && glB sc x && ckN N j n && decide (sc.names.lookup n = some .local) && nmB n && tgB N sc i2 y && !(i2 == j) && (match P.exn k with
    | some (some f) => hdL n f h q
    | _ => false) && decide (sS k2 = x2) && glB sc x2 && tgB N sc i3 y2 && ckC dd kk && (match P.exn k2 with
    | some (some _) => true
    | _ => false)
  | _, _ => false
def ckSs (P : Pg) (N : List String) (sc : Scope) : Ss → List Stmt → Bool
  | .n, [] => true
  | .c s r, st :: sts => ckS P N sc s st && ckSs P N sc r sts
  | _, _ => false
end
theorem cs_asg {P : Pg} {N : List String} {sc : Scope} {i : Nat} {e : Uk.E} {st : Stmt} (h : ckS P N sc (.asg i e) st = true) : ∃ x py p pos, st = .Assign [.Name x py] p pos ∧ tgB N sc i x = true ∧ ckE P N sc e p = true ∧ (isComp p == compOf e) = true := by
  unfold ckS at h
  split at h
  all_goals first
    | (rename_i hh; cases hh; done)
    | (rename_i hh _; cases hh; done)
    | exact absurd h Bool.false_ne_true
    | (rename_i hh
       cases hh
       simp only [Bool.and_eq_true, Bool.not_eq_true'] at h
       obtain ⟨⟨h0, h1⟩, h2⟩ := h
       exact ⟨_, _, _, _, rfl, h0, h1, h2⟩)
theorem cs_fld {P : Pg} {N : List String} {sc : Scope} {o e : Uk.E} {f : String} {st : Stmt} (h : ckS P N sc (.fld o f e) st = true) : ∃ po p1 p pos, st = .Assign [.Attribute po (sS f) p1] p pos ∧ ckE P N sc o po = true ∧ ckE P N sc e p = true := by
  unfold ckS at h
  split at h
  all_goals first
    | (rename_i hh; cases hh; done)
    | (rename_i hh _; cases hh; done)
    | exact absurd h Bool.false_ne_true
    | (rename_i hh
       cases hh
       simp only [Bool.and_eq_true, Bool.not_eq_true'] at h
       obtain ⟨⟨h0, h1⟩, h2⟩ := h
       have h0 := of_decide_eq_true h0
       subst h0
       exact ⟨_, _, _, _, rfl, h1, h2⟩)
theorem cs_sub {P : Pg} {N : List String} {sc : Scope} {o i e : Uk.E} {st : Stmt} (h : ckS P N sc (.sub o i e) st = true) : ∃ po pi p1 p pos, st = .Assign [.Subscript po pi p1] p pos ∧ ckE P N sc o po = true ∧ ckE P N sc i pi = true ∧ ckE P N sc e p = true := by
  unfold ckS at h
  split at h
  all_goals first
    | (rename_i hh; cases hh; done)
    | (rename_i hh _; cases hh; done)
    | exact absurd h Bool.false_ne_true
    | (rename_i hh
       cases hh
       simp only [Bool.and_eq_true, Bool.not_eq_true'] at h
       obtain ⟨⟨h0, h1⟩, h2⟩ := h
       exact ⟨_, _, _, _, _, rfl, h0, h1, h2⟩)
theorem cs_unp {P : Pg} {N : List String} {sc : Scope} {l : List Nat} {e : Uk.E} {st : Stmt} (h : ckS P N sc (.unp l e) st = true) : ∃ ps k p1 p pos, st = .Assign [.Tuple ps k p1] p pos ∧ ckTs N sc l ps = true ∧ isTup p = false ∧ ckE P N sc e p = true := by
  unfold ckS at h
  split at h
  all_goals first
    | (rename_i hh; cases hh; done)
    | (rename_i hh _; cases hh; done)
    | exact absurd h Bool.false_ne_true
    | (rename_i hh
       cases hh
       simp only [Bool.and_eq_true, Bool.not_eq_true'] at h
       obtain ⟨⟨h0, h1⟩, h2⟩ := h
       exact ⟨_, _, _, _, _, rfl, h0, h1, h2⟩)
theorem cs_par {P : Pg} {N : List String} {sc : Scope} {i j : Nat} {a b : Uk.E} {st : Stmt} (h : ckS P N sc (.par i j a b) st = true) : ∃ x px y py k p1 pa pb k2 p2 pos, st = .Assign [.Tuple [.Name x px, .Name y py] k p1] (.Tuple [pa, pb] k2 p2) pos ∧ ckN N i x = true ∧ ckN N j y = true ∧ i ≠ j ∧ parB sc x y px py pa pb = true ∧ ckE P N sc a pa = true ∧ ckE P N sc b pb = true := by
  unfold ckS at h
  split at h
  all_goals first
    | (rename_i hh; cases hh; done)
    | (rename_i hh _; cases hh; done)
    | exact absurd h Bool.false_ne_true
    | (rename_i hh
       cases hh
       simp only [Bool.and_eq_true, Bool.not_eq_true'] at h
       obtain ⟨⟨⟨⟨⟨h0, h1⟩, h2⟩, h3⟩, h4⟩, h5⟩ := h
       exact ⟨_, _, _, _, _, _, _, _, _, _, _, rfl, h0, h1, by simpa using h2, h3, h4, h5⟩)
theorem cs_if {P : Pg} {N : List String} {sc : Scope} {t : Uk.E} {a b : Ss} {st : Stmt} (h : ckS P N sc (.ife t a b) st = true) : ∃ p A B pos, st = .If p A B pos ∧ ckE P N sc t p = true ∧ ckSs P N sc a A = true ∧ ckSs P N sc b B = true := by
  unfold ckS at h
  split at h
  all_goals first
    | (rename_i hh; cases hh; done)
    | (rename_i hh _; cases hh; done)
    | exact absurd h Bool.false_ne_true
    | (rename_i hh
       cases hh
       simp only [Bool.and_eq_true, Bool.not_eq_true'] at h
       obtain ⟨⟨h0, h1⟩, h2⟩ := h
       exact ⟨_, _, _, _, rfl, h0, h1, h2⟩)
theorem cs_for {P : Pg} {N : List String} {sc : Scope} {t : Tg} {it : Uk.It} {b : Ss} {st : Stmt} (h : ckS P N sc (.for_ t it b) st = true) : ∃ pt pi B pos, st = .For pt pi B [] pos ∧ ckT N sc t pt = true ∧ tgFor it t = true ∧ ckI P N sc it pi = true ∧ ckSs P N sc b B = true := by
  unfold ckS at h
  split at h
  all_goals first
    | (rename_i hh; cases hh; done)
    | (rename_i hh _; cases hh; done)
    | exact absurd h Bool.false_ne_true
    | (rename_i hh
       cases hh
       simp only [Bool.and_eq_true, Bool.not_eq_true'] at h
       obtain ⟨⟨⟨h0, h1⟩, h2⟩, h3⟩ := h
       exact ⟨_, _, _, _, rfl, h0, h1, h2, h3⟩)
theorem cs_forD {P : Pg} {N : List String} {sc : Scope} {t : Tg} {e : Uk.E} {b : Ss} {st : Stmt} (h : ckS P N sc (.forD t e b) st = true) : ∃ pt pi B pos, st = .For pt pi B [] pos ∧ ckT N sc t pt = true ∧ ckE P N sc e pi = true ∧ ckSs P N sc b B = true := by
  unfold ckS at h
  split at h
  all_goals first
    | (rename_i hh; cases hh; done)
    | exact absurd h Bool.false_ne_true
    | (rename_i hh
       cases hh
       simp only [Bool.and_eq_true] at h
       obtain ⟨⟨h1, h2⟩, h3⟩ := h
       exact ⟨_, _, _, _, rfl, h1, h2, h3⟩)
theorem cs_while {P : Pg} {N : List String} {sc : Scope} {t : Uk.E} {b : Ss} {st : Stmt} (h : ckS P N sc (.while_ t b) st = true) : ∃ p B pos, st = .While p B [] pos ∧ ckE P N sc t p = true ∧ ckSs P N sc b B = true := by
  unfold ckS at h
  split at h
  all_goals first
    | (rename_i hh; cases hh; done)
    | (rename_i hh _; cases hh; done)
    | exact absurd h Bool.false_ne_true
    | (rename_i hh
       cases hh
       simp only [Bool.and_eq_true, Bool.not_eq_true'] at h
       obtain ⟨h0, h1⟩ := h
       exact ⟨_, _, _, rfl, h0, h1⟩)
theorem cs_ret {P : Pg} {N : List String} {sc : Scope} {e : Uk.E} {st : Stmt} (h : ckS P N sc (.ret e) st = true) : ∃ p pos, st = .Return (some p) pos ∧ ckE P N sc e p = true := by
  unfold ckS at h
  split at h
  all_goals first
    | (rename_i hh; cases hh; done)
    | (rename_i hh _; cases hh; done)
    | exact absurd h Bool.false_ne_true
    | (rename_i hh
       cases hh
       have h0 := h
       exact ⟨_, _, rfl, h0⟩)
theorem cs_retN {P : Pg} {N : List String} {sc : Scope} {st : Stmt} (h : ckS P N sc .retN st = true) : ∃ pos, st = .Return none pos := by
  unfold ckS at h
  split at h
  all_goals first
    | (rename_i hh; cases hh; done)
    | (rename_i hh _; cases hh; done)
    | exact absurd h Bool.false_ne_true
    | (exact ⟨_, rfl⟩)
theorem cs_pass {P : Pg} {N : List String} {sc : Scope} {st : Stmt} (h : ckS P N sc .pass st = true) : ∃ pos, st = .Pass pos := by
  unfold ckS at h
  split at h
  all_goals first
    | (rename_i hh; cases hh; done)
    | (rename_i hh _; cases hh; done)
    | exact absurd h Bool.false_ne_true
    | (exact ⟨_, rfl⟩)
theorem cs_ex {P : Pg} {N : List String} {sc : Scope} {e : Uk.E} {st : Stmt} (h : ckS P N sc (.ex e) st = true) : ∃ p pos, st = .Expr p pos ∧ isComp p = false ∧ ckE P N sc e p = true := by
  unfold ckS at h
  split at h
  all_goals first
    | (rename_i hh; cases hh; done)
    | (rename_i hh _; cases hh; done)
    | exact absurd h Bool.false_ne_true
    | (rename_i hh
       cases hh
       simp only [Bool.and_eq_true, Bool.not_eq_true'] at h
       obtain ⟨h0, h1⟩ := h
       exact ⟨_, _, rfl, h0, h1⟩)
theorem cs_rai {P : Pg} {N : List String} {sc : Scope} {k : String} {es : Uk.Es} {st : Stmt} (h : ckS P N sc (.rai k es) st = true) : ∃ e p1 p p2 pos f, es = .c e .n ∧ st = .Raise (some (.Call (.Name (sS k) p1) [p] [] p2)) none pos ∧ glB sc (sS k) = true ∧ P.exn k = some (some f) ∧ ckE P N sc e p = true := by
  unfold ckS at h
  split at h
  all_goals first
    | (rename_i hh; cases hh; done)
    | (rename_i hh _; cases hh; done)
    | exact absurd h Bool.false_ne_true
    | (rename_i hh
       cases hh
       simp only [Bool.and_eq_true] at h
       obtain ⟨⟨⟨h0, h1⟩, h2⟩, h3⟩ := h
       have h0 := of_decide_eq_true h0
       subst h0
       split at h2
       · rename_i f hf
         exact ⟨_, _, _, _, _, f, rfl, rfl, h1, hf, h3⟩
       · cases h2)
theorem cs_try {P : Pg} {N : List String} {sc : Scope} {i : Option Nat} {e : Uk.E} {hs : Hs} {st : Stmt} (h : ckS P N sc (.try_ i e hs) st = true) : (∃ k j i2 hd st1 n y np py spos pos' pos q f, hs = .c k (some j) (.c (.asg i2 hd) .n) .n ∧
    st = .Try [st1] [.ExceptHandler (some (.Name (sS k) np)) (some n) [.Assign [.Name y py] q spos] pos'] [] [] pos ∧ bodyB P N sc i e st1 = true ∧ glB sc (sS k) = true ∧ ckN N j n = true ∧ sc.names.lookup n = some .local ∧ nmB n = true ∧ tgB N sc i2 y = true ∧ i2 ≠ j ∧ P.exn k = some (some f) ∧ hdL n f hd q = true) ∨
    ∃ k j i2 hd st1 n y np py spos pos' pos q f k2 i3 dd y2 np2 py2 kk l cpos spos2 pos2 f2, hs = .c k (some j) (.c (.asg i2 hd) .n) (.c k2 none (.c (.asg i3 (.cst dd)) .n) .n) ∧
    st = .Try [st1] [.ExceptHandler (some (.Name (sS k) np)) (some n) [.Assign [.Name y py] q spos] pos', .ExceptHandler (some (.Name (sS k2) np2)) none [.Assign [.Name y2 py2] (.Constant kk l cpos) spos2] pos2] [] [] pos ∧ bodyB P N sc i e st1 = true ∧ glB sc (sS k) = true ∧ ckN N j n = true ∧ sc.names.lookup n = some .local ∧ nmB n = true ∧ tgB N sc i2 y = true ∧ i2 ≠ j ∧ P.exn k = some (some f) ∧ hdL n f hd q = true ∧
      glB sc (sS k2) = true ∧ tgB N sc i3 y2 = true ∧ ckC dd kk = true ∧ P.exn k2 = some (some f2) := by
  unfold ckS at h
  split at h
  all_goals first
    | (rename_i hh; cases hh; done)
    | exact absurd h Bool.false_ne_true
    | (rename_i hh
       cases hh
       simp only [Bool.and_eq_true, Bool.not_eq_true'] at h
       obtain ⟨⟨⟨⟨⟨⟨⟨⟨h0, h1⟩, h2⟩, h3⟩, h4⟩, h5⟩, h6⟩, h7⟩, h8⟩ := h
       have h1 := of_decide_eq_true h1
       subst h1
       split at h8
       · rename_i f hf
         exact .inl ⟨_, _, _, _, _, _, _, _, _, _, _, _, _, f, rfl, rfl, h0, h2, h3, of_decide_eq_true h4, h5, h6, by simpa using h7, hf, h8⟩
       · cases h8)
    | (rename_i hh
       cases hh
       simp only [Bool.and_eq_true, Bool.not_eq_true'] at h
       obtain ⟨⟨⟨⟨⟨⟨⟨⟨⟨⟨⟨⟨⟨h0, h1⟩, h2⟩, h3⟩, h4⟩, h5⟩, h6⟩, h7⟩, h8⟩, h9⟩, h10⟩, h11⟩, h12⟩, h13⟩ := h
       have h1 := of_decide_eq_true h1
       have h9 := of_decide_eq_true h9
       subst h1 h9
       split at h8
       · rename_i f hf
         split at h13
         · rename_i f2 hf2
           exact .inr ⟨_, _, _, _, _, _, _, _, _, _, _, _, _, f, _, _, _, _, _, _, _, _, _, _, _, f2, rfl, rfl, h0, h2, h3, of_decide_eq_true h4, h5, h6, by simpa using h7, hf, h8, h10, h11, h12, hf2⟩
         · cases h13
       · cases h8)
section
variable {ck : Arguments → List Stmt → Scope → FDef → Bool} {c : Cx} {N : List String}
/-- name = e, the model's two roads -/
theorem okS_asg (HE : ∀ X sc (E : L2.St → XK), XOk X ck c N sc E → ∀ E, EqIns X c E) {X : L2.Cx} {sc : Scope} {E : XK} (S : XS X ck c N sc E) {i : Nat} {e : Uk.E} {x : Str} {py pos : Pos} {p : PySem.Expr} (ht : tgB N sc i x = true) (he : ckE c.P N sc e p = true) (hc : (isComp p == compOf e) = true) :
    PS X (.Assign [.Name x py] p pos) (LS X E (exe c (.asg i e))) := by
  by_cases hic : isComp p = true
  · rw [hic] at hc
    have hce : compOf e = true := by simpa using hc
    cases e with
    | comp vs elt tg it cond =>
      obtain ⟨q, pt, pi, ifs, scope, cpos, rfl, h1, h2, h3, h4, h5, h6, h7, h8⟩ := ck_comp he
      have hk : X.env.scope.kind = .function := by rw [S.o.sc]; exact S.kf
      cases hsw : swB X.env.scope (.ListComp q [⟨pt, pi, ifs, 0⟩] scope cpos) x py with
      | false => exact ok_asg S ht (sw_false rfl hk hsw) (okE HE _ X sc (kE E) _ S.o he).pe
      | true =>
        obtain ⟨hyl, hs⟩ := sw_true' (l := pos.line) hk hsw
        refine ok_asgC S ht h1 h2 h3 h4 (okI HE it X sc (kE E) pt pi S.o (tg_tuple h5 h3) h6) (fold_plain (ckI_plain h6)) (fun Y OY => ?_) (fun Y OY => (okE HE elt Y (relS scope sc) E0' q OY h8).pe) hyl hs
        rcases h7 with ⟨rfl, rfl⟩ | ⟨q2, rfl, h7⟩
        · exact ⟨fun pins s σ H Q I ⟨r, g, e, R, er, hp⟩ => by
            obtain ⟨b, eb, hq⟩ := Post.here (d := .bl true) hp R .bl
            cases eb
            exact pts_nil.run pins s σ H Q I hq⟩
        · exact pts_one (okE HE cond Y (relS scope sc) E0' q2 OY h7).pt
    | dco t vs k v tg it =>
      obtain ⟨kx, vx, pt, pi, scope, cpos, rfl, rfl, h1, h2, h3, h4, h5, h6, h7, h8⟩ := ck_dco he
      exact ok_asgD S ht h1 h2 h3 h4 (okI HE it X sc (kE E) pt pi S.o (tg_tuple h5 h3) h6) (fold_plain (ckI_plain h6)) (fun Y OY => (okE HE k Y (relS scope sc) E0' kx OY h7).pe) (fun Y OY => (okE HE v Y (relS scope sc) E0' vx OY h8).pe)
    | _ => cases hce
  · exact ok_asg S ht (sw_plain (by simpa using hic)) (okE HE e X sc (kE E) p S.o he).pe
mutual
theorem okS (HE : ∀ X sc (E : L2.St → XK), XOk X ck c N sc E → ∀ E, EqIns X c E) : ∀ (s : S) (X : L2.Cx) (sc : Scope) (E : XK) (st : Stmt), XS X ck c N sc E → ckS c.P N sc s st = true → PS X st (LS X E (exe c s))
  | .asg i e, X, sc, E, st, S, h => by
    obtain ⟨x, py, p, pos, rfl, h1, h2, h3⟩ := cs_asg h
    exact okS_asg HE S h1 h2 h3
  | .fld o f e, X, sc, E, st, S, h => by
    obtain ⟨po, p1, p, pos, rfl, h1, h2⟩ := cs_fld h
    exact ok_fld S (okE HE o X sc (kE E) po S.o h1).pe (okE HE e X sc (kE E) p S.o h2).pe
  | .sub o i e, X, sc, E, st, S, h => by
    obtain ⟨po, pi, p1, p, pos, rfl, h1, h2, h3⟩ := cs_sub h
    exact ok_sub S (ck_plain h2) (okE HE o X sc (kE E) po S.o h1).pe (okE HE i X sc (kE E) pi S.o h2).pe (okE HE e X sc (kE E) p S.o h3).pe
  | .unp l e, X, sc, E, st, S, h => by
    obtain ⟨ps, k, p1, p, pos, rfl, h1, h2, h3⟩ := cs_unp h
    exact ok_unp S h1 h2 (okE HE e X sc (kE E) p S.o h3).pe
  | .par i j a b, X, sc, E, st, S, h => by
    obtain ⟨x, px, y, py, k, p1, pa, pb, k2, p2, pos, rfl, h1, h2, h3, h4, h5, h6⟩ := cs_par h
    exact ok_par S h1 h2 h3 h4 (okE HE a X sc (kE E) pa S.o h5).pe (okE HE b X sc (kE E) pb S.o h6).pe
  | .ife t a b, X, sc, E, st, S, h => by
    obtain ⟨p, A, B, pos, rfl, h1, h2, h3⟩ := cs_if h
    exact ok_if (okE HE t X sc (kE E) p S.o h1).pt (okSs HE a X sc E A S h2) (okSs HE b X sc E B S h3)
  | .for_ t it b, X, sc, E, st, S, h => by
    obtain ⟨pt, pi, B, pos, rfl, h1, h2, h3, h4⟩ := cs_for h
    exact ok_for S h1 (okI HE it X sc (kE E) pt pi S.o (tg_tuple h2 h1) h3) (fold_plain (ckI_plain h3)) (okSs HE b X sc E B S h4)
  | .forD t e b, X, sc, E, st, S, h => by
    obtain ⟨pt, pi, B, pos, rfl, h1, h2, h3⟩ := cs_forD h
    exact ok_forD S h1 (okE HE e X sc (kE E) pi S.o h2).pe (fold_plain (ck_plain h2)) (okSs HE b X sc E B S h3)
  | .while_ t b, X, sc, E, st, S, h => by
    obtain ⟨p, B, pos, rfl, h1, h2⟩ := cs_while h
    exact ok_while S (okE HE t X sc (kE E) p S.o h1).pt (okSs HE b X sc E B S h2)
  | .ret e, X, sc, E, st, S, h => by
    obtain ⟨p, pos, rfl, h1⟩ := cs_ret h
    exact ok_ret (okE HE e X sc (kE E) p S.o h1).pe
  | .retN, X, sc, E, st, S, h => by
    obtain ⟨pos, rfl⟩ := cs_retN h
    exact ok_retN
  | .ex e, X, sc, E, st, S, h => by
    obtain ⟨p, pos, rfl, h1, h2⟩ := cs_ex h
    exact ok_ex h1 (okE HE e X sc (kE E) p S.o h2).pe
  | .pass, X, sc, E, st, S, h => by
    obtain ⟨pos, rfl⟩ := cs_pass h
    exact ok_pass
  | .rai k es, X, sc, E, st, S, h => by
    obtain ⟨e, p1, p, p2, pos, f, rfl, rfl, h1, h2, h3⟩ := cs_rai h
    exact ok_rai S h2 h1 (ck_plain h3) (pa_c (ck_plain h3) (okE HE e X sc (kE E) p S.o h3).pe pa_n)
  | .try_ i e hs, X, sc, E, st, S, h => by
    rcases cs_try h with ⟨k, j, i2, hd, st1, n, y, np, py, spos, pos', pos, q, f, rfl, rfl, h1, h2, h3, h4, h5, h6, h7, h8, h9⟩ | ⟨k, j, i2, hd, st1, n, y, np, py, spos, pos', pos, q, f, k2, i3, dd, y2, np2, py2, kk, l, cpos, spos2, pos2, f2, rfl, rfl, h1, h2, h3, h4, h5, h6, h7, h8, h9, h10, h11, h12, h13⟩
    · exact ok_try1 HE S h1 h8 h2 h3 h4 h5 h6 h7 h9
    · exact ok_try2 HE S h1 h8 h2 h3 h4 h5 h6 h7 h9 h13 h10 h11 h12
theorem okSs (HE : ∀ X sc (E : L2.St → XK), XOk X ck c N sc E → ∀ E, EqIns X c E) : ∀ (b : Ss) (X : L2.Cx) (sc : Scope) (E : XK) (sts : List Stmt), XS X ck c N sc E → ckSs c.P N sc b sts = true → PSs X sts (LS X E (exs c b))
  | .n, X, sc, E, sts, S, h => by
    cases sts with
    | nil => exact oks_nil
    | cons _ _ => unfold ckSs at h; exact absurd h Bool.false_ne_true
  | .c s r, X, sc, E, sts, S, h => by
    cases sts with
    | nil => unfold ckSs at h; exact absurd h Bool.false_ne_true
    | cons st sts =>
      unfold ckSs at h
      rw [Bool.and_eq_true] at h
      exact oks_cons (okS HE s X sc E st S h.1) (okSs HE r X sc E sts S h.2)
end
end
/-! ## Defs -/
def fsB (N P : List Str) (sc : Scope) : Bool :=
  decide (sc.kind = .function) && !sc.isCoroutine && !sc.isGenerator && decide N.Nodup && decide (N.take P.length = P) && P.all (fun x => decide (sc.names.lookup x = some .local) || decide (sc.names.lookup x = some .cell)) && sc.names.all (fun y => !decide (y.2 = .free))
theorem fs_of {N P : List Str} {sc : Scope} (h : fsB N P sc = true) : FnScope N P sc := by
  unfold fsB at h
  simp only [Bool.and_eq_true, Bool.not_eq_true', decide_eq_true_eq, List.all_eq_true, Bool.or_eq_true, decide_eq_false_iff_not] at h
  obtain ⟨⟨⟨⟨⟨⟨h1, h2⟩, h3⟩, h4⟩, h5⟩, h6⟩, h7⟩ := h
  exact ⟨h1, h2, h3, h4, h5, h6, h7⟩
/-- the check of a def -/
def ckD (P : Pg) : Arguments → List Stmt → Scope → FDef → Bool := fun _ body sc fd => fsB (fd.N.map sS) (fd.ps.map sS) sc && ckSs P fd.N sc fd.body body
theorem XS.of {P : Pg} {c : Cx} {N : List String} {prog : Program} {w : World} {K : PySem.W.Frag} {mg : Str → Option Value} {base : Heap} {qual : Str} {sc : Scope} {f : Addr} {cd : Value} {A : Around} {outer : List PySem.Env} {s : Shared} {H : Hp} {E : XK} (hk : sc.kind = .function) (hP : c.P = P)
    (nd : (N.map sS).Nodup) (gf : GF K mg w (ckD P) P) (lm : ∃ c P, cd = .ref c ∧ (c, P, lamQ qual) ∈ tbs K ∧ (∀ t ∈ tbs K, t.2.1 = P → t.2.2 = lamQ qual) ∧ LamX.TabB base mg c P) (ar0 : ∀ k f ds g, c.call k f ds g ≠ .bad → ∃ fd, c.P.fn k f = some fd ∧ ds.length = fd.ps.length) (ar1 : ∀ k f ds g, c.call1 k f ds g ≠ .bad → ∃ fd, c.P.fn k f = some fd ∧ ds.length = fd.ps.length)
    {n : Nat} (hr : Room n (A.deeper (envOfC qual sc s.heap.objs.size f cd))) (h0 : ∀ X : L2.Cx, X.prog = prog → X.w = w → X.K = K → X.mg = mg → X.base = base → CallsOk X (ckD P) P n c.call)
    (h1 : (∀ k f d g, c.call1 k f d g = .bad) ∨ ∃ m, m + 1 = n ∧ ∀ X : L2.Cx, X.prog = prog → X.w = w → X.K = K → X.mg = mg → X.base = base → CallsOk X (ckD P) P m c.call1) :
    XS (cxOf (L2.CX prog w) prog w K mg base (N.map sS) qual sc f cd A outer s H E) (ckD P) c N sc E := by
  subst hP
  have tk : Takes (cxOf (L2.CX prog w) prog w K mg base (N.map sS) qual sc f cd A outer s H E) fun cls d _ H => E cls d H := takes_of rfl rfl rfl rfl
  refine ⟨⟨rfl, nd, rfl, rfl, gf, .inr lm, ar0, ar1, ⟨n, hr, h0 _ rfl rfl rfl rfl rfl, ?_⟩, fun σ => passAt tk σ⟩, fun x => ⟨fun h => ⟨.inl h, .inl rfl⟩, fun h => ⟨.inr h, .inl rfl⟩⟩, hk, passes_of rfl, tk, rfl, rfl⟩
  rcases h1 with h1 | ⟨m, hm, h1⟩
  · exact .inl h1
  · exact .inr ⟨m, hm, h1 _ rfl rfl rfl rfl rfl⟩
theorem ER.start {K : PySem.W.Frag} {r : List Addr} {H : Hp} {ds : List D} {vs : List V} {N : List String} (h : VRs K r H ds vs) : ER K r H (ds.map some ++ List.replicate (N.length - ds.length) none) (L2.start (N.map sS) vs) := by
  unfold L2.start
  have hl := h.length
  refine ⟨by simp [hl], fun i d e => ?_⟩
  rw [List.getElem?_append] at e ⊢
  simp only [List.length_map, hl] at e ⊢
  split at e
  · rename_i hi
    rw [if_pos hi]
    rw [List.getElem?_map] at e ⊢
    obtain ⟨d0, e1, e2⟩ := Option.map_eq_some_iff.mp e
    cases e2
    obtain ⟨v, e3, e4⟩ := h.get e1
    exact ⟨v, by rw [e3]; rfl, e4⟩
  · rw [List.getElem?_replicate] at e
    split at e <;> cases e
theorem call_ar (P : Pg) : ∀ (n : Nat) (k f : String) (ds : List D) (g : G), call P n k f ds g ≠ .bad → ∃ fd, P.fn k f = some fd ∧ ds.length = fd.ps.length
  | 0, k, f, ds, g, h => absurd rfl h
  | 1, k, f, ds, g, h => by
    unfold call at h
    cases hf : P.fn k f with
    | none => rw [hf] at h; exact absurd rfl h
    | some fd =>
      rw [hf] at h
      refine ⟨fd, rfl, ?_⟩
      dsimp only at h
      unfold runF at h
      split at h
      · assumption
      · exact absurd rfl h
  | n + 2, k, f, ds, g, h => by
    unfold call at h
    cases hf : P.fn k f with
    | none => rw [hf] at h; exact absurd rfl h
    | some fd =>
      rw [hf] at h
      refine ⟨fd, rfl, ?_⟩
      dsimp only at h
      unfold runF at h
      split at h
      · assumption
      · exact absurd rfl h
end Uk
end
section
set_option Elab.async false
set_option linter.all false
set_option maxRecDepth 100000
set_option autoImplicit false
set_option maxHeartbeats 2000000
namespace Uk
open PySem PySem.Spec PyProof.Rows L2
section
variable {P : Pg} {prog : Program} {w : World} {K : PySem.W.Frag} {mg : Str → Option Value} {base : Heap}
/-- the calls of a level, wherever they are told -/
def AllOk (P : Pg) (prog : Program) (w : World) (K : PySem.W.Frag) (mg : Str → Option Value) (base : Heap) (n : Nat) (call : String → String → List D → G → R D) : Prop :=
  ∀ k f fd a dt, P.fn k f = some fd → FnAt K (ckD P) fd a dt → FnOk prog w K mg base (L2.CX prog w) n a dt (fd.ps.map sS) (SpOf K mg w fd.ps.length (call k f))
theorem AllOk.at {n : Nat} {call : String → String → List D → G → R D} (h : AllOk P prog w K mg base n call) (X : L2.Cx) (h1 : X.prog = prog) (h2 : X.w = w) (h3 : X.K = K) (h4 : X.mg = mg) (h5 : X.base = base) : CallsOk X (ckD P) P n call := by
  subst h1 h2 h3 h4 h5
  exact h
theorem all_bad (n : Nat) : AllOk P prog w K mg base n fun _ _ _ _ => .bad := fun k f fd a dt _ _ => ⟨fun vs H Q E h => by rw [h.1, List.length_map], fun A outer s H args us vs Q E hr he hb hv hs => by
  obtain ⟨_, r, g, ds, _, _, hp⟩ := hs
  exact hp.elim⟩
theorem all_step (gf : GF K mg w (ckD P) P) (TB : ∀ t ∈ tbs K, LamX.TabB base mg t.1 t.2.1) (HE : ∀ (c : Cx) (N : List String) (X : L2.Cx) (sc : Scope) (E : L2.St → XK), XOk X (ckD P) c N sc E → ∀ E, EqIns X c E) {n : Nat} {call call1 call2 : String → String → List D → G → R D}
    (ar0 : ∀ k f ds g, call k f ds g ≠ .bad → ∃ fd, P.fn k f = some fd ∧ ds.length = fd.ps.length) (ar1 : ∀ k f ds g, call1 k f ds g ≠ .bad → ∃ fd, P.fn k f = some fd ∧ ds.length = fd.ps.length)
    (h0 : AllOk P prog w K mg base n call) (h1 : (∀ k f d g, call1 k f d g = .bad) ∨ ∃ m, m + 1 = n ∧ AllOk P prog w K mg base m call1)
    (hc : ∀ k f fd ds g, P.fn k f = some fd → call2 k f ds g = runF ⟨P, call, call1, none⟩ fd ds g) : AllOk P prog w K mg base (n + 1) call2 := by
  intro k f fd a dt hf at_
  obtain ⟨⟨name, qual, params, body, scope, dvs, kws, F, hck⟩, _, hlm⟩ := at_
  have hck : (fsB (fd.N.map sS) (fd.ps.map sS) scope && ckSs P fd.N scope fd.body body) = true := hck
  rw [Bool.and_eq_true] at hck
  have FS := fs_of hck.1
  obtain ⟨oc, od, dV, kV, doc, pm, an, cdv, ct, osl, e1, lk, hcd, _, _⟩ := F.ex
  subst e1
  refine fn_of lk hcd FS (fun vs H Q E h => by rw [h.1, List.length_map]) fun A outer s H vs Q E hr ⟨hl, r, g, ds, R, hv, hp⟩ => ?_
  have lm2 : ∃ c P, cdv = .ref c ∧ (c, P, lamQ qual) ∈ tbs K ∧ (∀ t ∈ tbs K, t.2.1 = P → t.2.2 = lamQ qual) ∧ LamX.TabB base mg c P := by
    obtain ⟨c, P, h1, h2, h3⟩ := hlm
    exact ⟨c, P, h1, h2, h3, TB _ h2⟩
  have S : XS (cxOf (L2.CX prog w) prog w K mg base (fd.N.map sS) qual scope a cdv A outer s H E) (ckD P) ⟨P, call, call1, none⟩ fd.N scope E :=
    XS.of FS.kind rfl FS.nd gf lm2 ar0 ar1 hr (fun X a b c d e => h0.at X a b c d e) (h1.elim .inl fun ⟨m, hm, h1⟩ => .inr ⟨m, hm, fun X a b c d e => h1.at X a b c d e⟩)
  refine ⟨_, okSs (fun X sc E O => HE _ _ X sc E O) fd.body _ scope E body S hck.2, r, g, ds.map some ++ List.replicate (fd.N.length - ds.length) none, R, ER.start hv, ?_⟩
  rw [hc k f fd ds g hf] at hp
  unfold runF at hp
  split at hp
  · cases hm : exs ⟨P, call, call1, none⟩ fd.body (ds.map some ++ List.replicate (fd.N.length - ds.length) none) g with
    | bad => rw [hm] at hp; exact hp.elim
    | exc y g1 => rw [hm] at hp; exact hp
    | ok z g1 =>
      rw [hm] at hp
      obtain ⟨e', fl⟩ := z
      cases fl with
      | nx =>
        have hp : Post K mg w E r H (.ok .non g1) Q := hp
        exact fun r' σ' H' x R' _ => hp r' .non H' x R' .non
      | rt d =>
        have hp : Post K mg w E r H (.ok d g1) Q := hp
        exact fun r' v H' x R' q => hp r' v H' x R' q
  · exact hp.elim
theorem all_ok (gf : GF K mg w (ckD P) P) (TB : ∀ t ∈ tbs K, LamX.TabB base mg t.1 t.2.1) (HE : ∀ (c : Cx) (N : List String) (X : L2.Cx) (sc : Scope) (E : L2.St → XK), XOk X (ckD P) c N sc E → ∀ E, EqIns X c E) : ∀ n, AllOk P prog w K mg base n (call P n)
  | 0 => all_bad 0
  | 1 => all_step gf TB HE (call := fun _ _ _ _ => .bad) (call1 := fun _ _ _ _ => .bad) (fun _ _ _ _ h => absurd rfl h) (fun _ _ _ _ h => absurd rfl h) (all_bad 0) (.inl fun _ _ _ _ => rfl) fun k f fd ds g h => by
    show (match P.fn k f with
      | some fd => runF ⟨P, fun _ _ _ _ => .bad, fun _ _ _ _ => .bad, none⟩ fd ds g
      | none => .bad) = _
    rw [h]
  | n + 2 => all_step gf TB HE (call_ar P (n + 1)) (call_ar P n) (all_ok gf TB HE (n + 1)) (.inr ⟨n, rfl, all_ok gf TB HE n⟩) fun k f fd ds g h => by
    show (match P.fn k f with
      | some fd => runF ⟨P, call P (n + 1), call P n, none⟩ fd ds g
      | none => .bad) = _
    rw [h]
end
end Uk
end
section
set_option Elab.async false
set_option linter.all false
set_option maxRecDepth 100000
set_option autoImplicit false
set_option maxHeartbeats 2000000
namespace Uk
open PySem PySem.Spec PyProof.Rows L2
section
variable {X : L2.Cx} {ck : Arguments → List Stmt → Scope → FDef → Bool} {c : Cx} {N : List String} {sc : Scope} {ES : L2.St → XK} {r : List Addr} {H : Hp} {g : G} {pins : List (Addr × Obj)} {s : Shared} {σ : L2.St}
/-- the type of a value that == is asked with -/
theorem right_ty (I : Inv X pins σ H s) (R : Rel X.K X.mg X.w r g H) {k : String} {C : Addr} (hC : X.mg (sS k) = some (.ref C)) {y : D} {w : V} {b : Value} (hy : VR X.K r H y w) (rb : RelV w b) (h : eqRight g k y = true) :
    ∃ tb, PySem.W.Looks (model X.prog X.w) s.heap (typeOf b) tb ∧ (tb = .ref C ∨ ∃ T ∈ ["NoneType", "bool", "int", "str", "tuple", "list"], tb = .type T) := by
  cases y with
  | non =>
    rw [hy.non_inv] at rb
    cases rb
    exact ⟨.type "NoneType", .of_pure rfl, .inr ⟨_, by simp, rfl⟩⟩
  | bl q =>
    rw [hy.bl_inv] at rb
    cases rb
    exact ⟨.type "bool", .of_pure rfl, .inr ⟨_, by simp, rfl⟩⟩
  | int q =>
    rw [hy.int_inv] at rb
    obtain ⟨t, rfl⟩ := rb
    exact ⟨.type "int", .of_pure rfl, .inr ⟨_, by simp, rfl⟩⟩
  | str q =>
    rw [hy.str_inv] at rb
    obtain ⟨t, rfl⟩ := rb
    exact ⟨.type "str", .of_pure rfl, .inr ⟨_, by simp, rfl⟩⟩
  | tup xs =>
    obtain ⟨p, vs, rfl, h1, _⟩ := hy.tup_inv
    obtain rfl : b = Value.ref p := rb
    obtain ⟨its, rv, ⟨o, ho, hc, _⟩, _⟩ := I.tuple h1
    exact ⟨.type "tuple", fun A Q E s k q => wpAny_typeOf_ref (k _ _ ho) (by rw [hc]; exact q), .inr ⟨_, by simp, rfl⟩⟩
  | ref j =>
    obtain ⟨p, e, rfl⟩ := hy.ref_inv
    obtain rfl : b = Value.ref p := rb
    obtain ⟨o, ho, oo⟩ := R.get e
    unfold eqRight at h
    dsimp only at h
    rw [ho] at h
    cases o with
    | lst xs =>
      obtain ⟨vs, h1, _⟩ := oo
      obtain ⟨z, its, n, rv, hob⟩ := I.hok p _ h1
      exact ⟨.type "list", fun A Q E s k q => wpAny_typeOf_ref (k _ _ hob) q, .inr ⟨_, by simp, rfl⟩⟩
    | ins k' fs =>
      have hk : k' = k := eq_of_beq h
      subst hk
      obtain ⟨C2, dx, ps, h0, h1, _⟩ := oo
      rw [hC] at h0
      cases h0
      obtain ⟨mA, J, _⟩ := ins_get I.hok h1
      obtain ⟨od, J, _⟩ := J.look
      exact ⟨.ref C, fun A Q E s k q => wpAny_typeOf_ref (k _ _ J.at_) (by rw [J.cls]; exact q), .inl rfl⟩
    | dK _ => cases h
    | dT _ => cases h
    | lk _ => cases h
  | fro _ => cases h
theorem eqIns (O : XOk X ck c N sc ES) : ∀ E, EqIns X c E := by
  intro E pins s σ H r g i k fs y v w a b Q I R hi hx hy ra rb
  have hx' := hx
  obtain ⟨p, ep, rfl⟩ := hx'.ref_inv
  obtain rfl : a = Value.ref p := ra
  obtain ⟨C, dx, ps, h0, h1, h2⟩ := R.at_ i p _ ep hi
  have eo : eqOp c (.ref i) y g = if c.P.cls k && !c.P.prop k "__eq__" && eqRight g k y then (noX (c.call1 k "__eq__" [.ref i, y] g)).bind fun d g => match d with
      | .bl b => .ok b g
      | _ => .bad
      else .bad := by
    simp only [eqOp, hi]
    try rfl
  have main : ∀ {q : Bool → Bool} {Q : VK}, Post X.K X.mg X.w E r H ((eqOp c (.ref i) y g).bind fun b g => .ok (.bl (q b)) g) Q → ∃ (fa : Addr) (tb : Value) (C2 : Addr), X.mg (sS k) = some (.ref C2) ∧ ClsAt X.K c.P k C2 ∧ Meth X.K C2 (sS "__eq__") fa ∧
      PySem.W.Looks (model X.prog X.w) s.heap (typeOf b) tb ∧ PySem.W.notFirst X.K C2 tb = true ∧ ∀ (A : Around) (E' : Value → Shared → Prop), (A = X.A ∨ A = X.A.in1) → wpAny (model X.prog X.w) A (PySem.call (.ref fa) [.ref p, b]) (fun u s' => ∃ z, u = .bool z ∧ ∃ H', Inv X pins σ H' s' ∧ Q (.bl (q z)) H') E' s := by
    intro q Q hp
    rw [eo] at hp
    split at hp
    · rename_i hc
      rw [Bool.and_eq_true, Bool.and_eq_true, Bool.not_eq_true'] at hc
      obtain ⟨⟨hcl, hpr⟩, hr⟩ := hc
      have hp2 : Post X.K X.mg X.w E r H ((noX (c.call1 k "__eq__" [.ref i, y] g)).bind fun d g => match d with
        | .bl b => .ok (.bl (q b)) g
        | _ => .bad) Q := by
        cases hm : noX (c.call1 k "__eq__" [.ref i, y] g) with
        | bad => rw [hm] at hp; exact hp
        | exc _ _ => rw [hm] at hp; exact hp
        | ok d g1 =>
          rw [hm] at hp
          cases d with
          | bl b => exact hp
          | _ => exact hp
      obtain ⟨d, g1, hc1, hp3⟩ := noX_post (E' := E) (α := Unit) hp2
      obtain ⟨fd, hfd, hl⟩ := O.ar1 k "__eq__" _ g (by rw [hc1]; exact fun z => by cases z)
      obtain ⟨C2, hC2, ca⟩ := O.gf.cls k hcl
      obtain ⟨fa, dt, M, at_⟩ := O.gf.met k "__eq__" fd C2 hcl hfd hpr hC2
      obtain ⟨tb, ht, hn⟩ := right_ty I R hC2 hy rb hr
      refine ⟨fa, tb, C2, hC2, ca, M, ht, ?_, fun A E' hA => ?_⟩
      · rcases hn with rfl | ⟨T, hT, rfl⟩
        · simp [PySem.W.notFirst]
        · exact ca.nf T hT
      · refine run1 O hfd at_ I R (ds := [.ref i, y]) (vs := [.ref p, w]) (us := [.ref p, b]) (.cons hx (.cons hy (VRs.nil_iff.mpr rfl))) (.cons rfl (.cons rb .nil)) hc1 hl hA fun u s1 r1 H1 v1 I1 x1 R1 q1 ru => ?_
        cases d with
        | bl z =>
          rw [q1.bl_inv] at ru
          cases ru
          have hp3 : Post X.K X.mg X.w E r H (.ok (.bl (q z)) g1) Q := hp3
          exact ⟨z, rfl, H1, I1, hp3 r1 _ H1 x1 R1 .bl⟩
        | _ => exact hp3.elim
    · exact hp.elim
  obtain ⟨mA, J, _⟩ := ins_get I.hok h1
  refine ⟨fun hp => ?_, fun hne hp => ?_⟩
  · obtain ⟨fa, tb, C2, hC2, ca, M, ht, hn, hcall⟩ := main (q := fun b => b) hp
    rw [h0] at hC2
    cases hC2
    obtain ⟨od, J, _⟩ := J.look
    obtain ⟨m, hF⟩ := I.fr
    have hu : X.A.units < cLine := by
      have := O.units
      omega
    unfold compareOp
    refine PySem.W.cmp_K (op := .Eq) (tb := tb) hu hF I.ok.mod.kin J ht hn M.at_ M.fn (thn (hcall X.A X.xe (.inl rfl)) fun u s1 ⟨z, eu, H1, I1, q⟩ => ?_)
    subst eu
    exact ⟨.bl z, H1, I1, rfl, q⟩
  · obtain ⟨fa, tb, C2, hC2, ca, M, ht, hn, hcall⟩ := main (q := fun b => !b) hp
    rw [h0] at hC2
    cases hC2
    have hyi : ∃ (p2 : Addr) (oy : Obj), b = .ref p2 ∧ s.heap.get? p2 = some oy ∧ oy.cls = .ref C := by
      unfold neOk at hne
      dsimp only at hne
      rw [hi] at hne
      dsimp only at hne
      cases y with
      | ref j =>
        dsimp only at hne
        obtain ⟨p2, e2, rfl⟩ := hy.ref_inv
        obtain rfl : b = Value.ref p2 := rb
        obtain ⟨o, ho, oo⟩ := R.get e2
        rw [ho] at hne
        cases o with
        | ins k' fs' =>
          have hk : k' = k := eq_of_beq hne
          subst hk
          obtain ⟨C3, dx3, ps3, h03, h13, _⟩ := oo
          rw [h0] at h03
          cases h03
          obtain ⟨mB, J2, _⟩ := ins_get I.hok h13
          obtain ⟨od, J2, _⟩ := J2.look
          exact ⟨p2, _, rfl, J2.at_, J2.cls⟩
        | _ => cases hne
      | _ => cases hne
    obtain ⟨p2, oy, rfl, hgy, hcy⟩ := hyi
    obtain ⟨od, J, _⟩ := J.look
    have hO := ca.ne fa M.at_ s.heap p _ I.kIn J.at_ J.cls
    have hu : X.A.units + 1 < cLine := by
      have := O.units
      omega
    obtain ⟨hp', g', d', t', os'⟩ := s
    refine compareOp_ne_ownEq F.cmp_object hO hgy hcy hu (thn (hcall X.A.in1 X.xe (.inr rfl)) fun u s1 ⟨z, eu, H1, I1, q⟩ => ?_)
    exact ⟨z, eu, .bl (!z), H1, I1, rfl, q⟩
end
theorem all_calls {P : Pg} {prog : Program} {w : World} {K : PySem.W.Frag} {mg : Str → Option Value} {base : Heap} (gf : GF K mg w (ckD P) P) (TB : ∀ t ∈ tbs K, LamX.TabB base mg t.1 t.2.1) (n : Nat) : AllOk P prog w K mg base n (call P n) := all_ok gf TB (fun c N X sc E O => eqIns O) n
end Uk
end
section
set_option Elab.async false
set_option linter.all false
set_option maxRecDepth 100000
set_option autoImplicit false
set_option maxHeartbeats 2000000
namespace Uk
open PySem PySem.Spec PyProof.Rows L2
open PySem.W (Frag nsIn findIn specialIn takesIn mroIn kitOne keepIn isFn subIn typeIn hasDictIn exmOne recIn notFirst codeIn nsOkIn)
/-! ## A program as data -/
structure DE where
  k : String
  f : String
  st : Stmt
structure PgD where
  ds : List (DE × FDef)
  xs : List DE
  cons : List (String × D)
  exns : List (String × Option String)
  cls : List String
  prop : List (String × String)
  fld : List (String × String)
  base : String → String → Bool
  dcs : List (String × List (String × D))
def PgD.fns (d : PgD) : List ((String × String) × FDef) := d.ds.map fun q => ((q.1.k, q.1.f), q.2)
def pgOf (d : PgD) : Pg := ⟨fun k x => d.fns.lookup (k, x), fun x => d.cons.lookup x, fun x => d.exns.lookup x, fun x => d.cls.contains x, fun c x => d.prop.contains (c, x), fun c x => d.fld.contains (c, x), d.base, fun x => d.dcs.lookup x⟩
theorem lookup_in {α β : Type} [BEq α] [LawfulBEq α] {x : α} {y : β} : ∀ {l : List (α × β)}, l.lookup x = some y → (x, y) ∈ l
  | [], h => by cases h
  | (a, b) :: r, h => by
    rw [List.lookup_cons] at h
    split at h
    · rename_i e
      cases h
      rw [eq_of_beq e]
      exact List.mem_cons_self
    · exact List.mem_cons_of_mem _ (lookup_in h)
theorem PgD.fn_in {d : PgD} {k f : String} {fd : FDef} (h : (pgOf d).fn k f = some fd) : ∃ q ∈ d.ds, q.1.k = k ∧ q.1.f = f ∧ q.2 = fd := by
  have h1 := lookup_in (show d.fns.lookup (k, f) = some fd from h)
  obtain ⟨q, hq, e⟩ := List.mem_map.mp h1
  cases e
  exact ⟨q, hq, rfl, rfl, rfl⟩
/-! ## Where things stand -/
abbrev gaS (K : Frag) (x : String) : Addr := He.ga K (sS x)
def getter (K : Frag) (p : Addr) : Addr := match recIn K p "property" with
  | some (.ref g :: _) => g
  | _ => 0
def defAd (d : PgD) (K : Frag) (e : DE) : Addr := if e.k = "" then gaS K e.f else if d.prop.contains (e.k, e.f) then getter K (He.ma K (gaS K e.k) (sS e.f)) else He.ma K (gaS K e.k) (sS e.f)
def DE.qual (e : DE) : Str := sS (if e.k = "" then e.f else e.k ++ "." ++ e.f)
def fnV (K : Frag) (a : Addr) : He.FnW := match K.lookup a with
  | some ⟨_, _, .func fd, _⟩ => some (fd.name, fd.qualname, fd.params, fd.body, fd.scope, fd.globals, fd.closure, fd.builtins)
  | _ => none
def DE.val (e : DE) : He.FnW := some (sS e.f, e.qual, defArgs e.st, .stmts (defBody e.st), defScope e.st, mainGlobals, [], builtinsNs)
def DE.ok (K : Frag) (a : Addr) (e : DE) : Bool := keepIn K (.ref a) && match K.lookup a with
  | some ⟨_, _, .func fd, _⟩ => codeIn K fd.code e.qual && (He.dflB K fd.defaults [] && He.kwdB K fd.kwdefaults [])
  | _ => false
theorem DE.funD {K : Frag} {a : Addr} {e : DE} (h : fnV K a = e.val) (c : e.ok K a = true) : ∃ dt, FunD K (sS e.f) e.qual (defArgs e.st) (defBody e.st) (defScope e.st) [] [] a dt := by
  unfold DE.ok at c
  rw [Bool.and_eq_true] at c
  obtain ⟨kp, c⟩ := c
  unfold fnV at h
  split at c
  · rename_i oc od fd osl hl
    rw [hl] at h
    simp only [Bool.and_eq_true] at c
    obtain ⟨c1, c2, c3⟩ := c
    obtain ⟨n1, n2, n3, n4, n5, n6, n7, n8, n9, n10, n11, n12, n13, n14, n15⟩ := fd
    have h : (some (n1, n2, n3, n4, n5, n6, n7, n15) : He.FnW) = some (sS e.f, e.qual, defArgs e.st, .stmts (defBody e.st), defScope e.st, mainGlobals, [], builtinsNs) := h
    simp only [Option.some.injEq, Prod.mk.injEq] at h
    obtain ⟨e1, e2, e3, e4, e5, e6, e7, e8⟩ := h
    subst e1 e2 e3 e4 e5 e6 e7 e8
    exact ⟨_, ⟨oc, od, n8, n9, n10, n11, n12, n13, n14, osl, rfl, hl, c1, He.dflB_ok c2, He.kwdB_ok c3⟩, kp⟩
  · cases c
/-! ## Constants -/
mutual
def valB (K : Frag) : D → Value → Bool
  | .non, .none => true
  | .bl a, .bool b => a == b
  | .int i, .int j _ => decide (i = j)
  | .str s, .str x _ => decide (sS s = x)
  | .tup xs, .ref a => match K.lookup a with
    | some ⟨.type c, none, .seq its _, _⟩ => decide (c = "tuple") && decide (its.size ≤ sizeLine) && valsB K xs its.toList
    | _ => false
  | _, _ => false
def valsB (K : Frag) : List D → List Value → Bool
  | [], [] => true
  | x :: xs, u :: us => valB K x u && valsB K xs us
  | _, _ => false
end
mutual
theorem valB_ok {K : Frag} : ∀ (d : D) (u : Value), valB K d u = true → ∃ v, RelV v u ∧ ∀ r H, VR K r H d v
  | .non, u, h => by
    cases u <;> first
      | exact ⟨.non, rfl, fun _ _ => .non⟩
      | (unfold valB at h; exact absurd h Bool.false_ne_true)
  | .bl a, u, h => by
    cases u <;> first
      | (unfold valB at h; rename_i b; rw [← eq_of_beq h]; exact ⟨.bl a, rfl, fun _ _ => .bl⟩)
      | (unfold valB at h; exact absurd h Bool.false_ne_true)
  | .int a, u, h => by
    cases u <;> first
      | (unfold valB at h; rename_i b t; rw [← of_decide_eq_true h]; exact ⟨.int a, ⟨t, rfl⟩, fun _ _ => .int⟩)
      | (unfold valB at h; exact absurd h Bool.false_ne_true)
  | .str a, u, h => by
    cases u <;> first
      | (unfold valB at h; rename_i b t; rw [← of_decide_eq_true h]; exact ⟨.str (sS a), ⟨t, rfl⟩, fun _ _ => .str⟩)
      | (unfold valB at h; exact absurd h Bool.false_ne_true)
  | .tup xs, u, h => by
    cases u with
    | ref a =>
      unfold valB at h
      split at h
      · rename_i c its n sl hl
        simp only [Bool.and_eq_true] at h
        obtain ⟨⟨h1, h2⟩, h3⟩ := h
        have h1 := of_decide_eq_true h1
        subst h1
        obtain ⟨vs, rv, hv⟩ := valsB_ok xs its.toList h3
        exact ⟨.ref a, rfl, fun r H => .tup (vs := vs) (.inr ⟨_, its, n, hl, rfl, rfl, of_decide_eq_true h2, rv⟩) (hv r H)⟩
      · cases h
    | _ => unfold valB at h; exact absurd h Bool.false_ne_true
  | .ref _, u, h => by cases u <;> (unfold valB at h; exact absurd h Bool.false_ne_true)
  | .fro _, u, h => by cases u <;> (unfold valB at h; exact absurd h Bool.false_ne_true)
theorem valsB_ok {K : Frag} : ∀ (ds : List D) (us : List Value), valsB K ds us = true → ∃ vs, Vals vs us ∧ ∀ r H, VRs K r H ds vs
  | [], [], _ => ⟨[], .nil, fun _ _ => VRs.nil_iff.mpr rfl⟩
  | [], _ :: _, h => by unfold valsB at h; exact absurd h Bool.false_ne_true
  | _ :: _, [], h => by unfold valsB at h; exact absurd h Bool.false_ne_true
  | d :: ds, u :: us, h => by
    unfold valsB at h
    rw [Bool.and_eq_true] at h
    obtain ⟨v, r1, h1⟩ := valB_ok d u h.1
    obtain ⟨vs, r2, h2⟩ := valsB_ok ds us h.2
    exact ⟨v :: vs, .cons r1 r2, fun r H => .cons (h1 r H) (h2 r H)⟩
end
def conB (K : Frag) (q : String × D) : Bool := match nsIn K mainGlobals (sS q.1) with
  | some (some u) => valB K q.2 u
  | _ => false
theorem conB_tup {K : Frag} {x : String} {xs : List D} (h : conB K (x, .tup xs) = true) : ∃ (a : Addr) (o : Obj), nsIn K mainGlobals (sS x) = some (some (.ref a)) ∧ K.lookup a = some o ∧ o.cls = .type "tuple" ∧ o.dict = none := by
  unfold conB at h
  split at h
  · rename_i u hu
    cases u with
    | ref a =>
      unfold valB at h
      split at h
      · rename_i c its n sl hl
        simp only [Bool.and_eq_true] at h
        have h1 := of_decide_eq_true h.1.1
        subst h1
        exact ⟨a, _, hu, hl, rfl, rfl⟩
      · cases h
    | _ => unfold valB at h; exact absurd h Bool.false_ne_true
  · cases h
/-- the entries of a dict with text keys -/
def entB (K : Frag) : List (String × D) → List DictEntry → Bool
  | [], [] => true
  | q :: r, e :: es => (match e.key with
    | .str x _ => decide (sS q.1 = x)
    | _ => false) && valB K q.2 e.val && entB K r es
  | _, _ => false
theorem entB_ok {K : Frag} : ∀ {kvs : List (String × D)} {es : List DictEntry}, entB K kvs es = true → DctE K kvs es
  | [], [], _ => .nil
  | [], _ :: _, h => by unfold entB at h; exact absurd h Bool.false_ne_true
  | _ :: _, [], h => by unfold entB at h; exact absurd h Bool.false_ne_true
  | q :: r, e :: es, h => by
    unfold entB at h
    rw [Bool.and_eq_true, Bool.and_eq_true] at h
    obtain ⟨⟨h1, h2⟩, h3⟩ := h
    refine .cons ⟨?_, valB_ok _ _ h2⟩ (entB_ok h3)
    split at h1
    · rename_i x t hk
      exact ⟨t, by rw [hk, of_decide_eq_true h1]⟩
    · cases h1
/-- where the module's dict x stands -/
def dctB (K : Frag) (q : String × List (String × D)) : Bool := (He.Fa.glo (sS q.1)).ok K && match K.lookup (gaS K q.1) with
  | some ⟨_, _, .dict es _, _⟩ => entB K q.2 es.toList
  | _ => false
/-- an empty table -/
def tabE : Option Obj → Bool
  | some ⟨.none, none, .fields a, sl⟩ => a.isEmpty && sl.isEmpty
  | _ => false
theorem tabE_ok {o : Option Obj} (h : tabE o = true) : o = some { cls := .none, data := .fields #[] } := by
  unfold tabE at h
  split at h
  · rename_i a sl
    rw [Bool.and_eq_true, Array.isEmpty_iff, Array.isEmpty_iff] at h
    rw [h.1, h.2]
  · cases h
def tbsB (K : Frag) : Bool := (tbs K).all fun t => (tbs K).all fun u => !(t.2.1 == u.2.1) || decide (t.2.2 = u.2.2)
theorem codeTb_hd {K : Frag} {h : Heap} {v : Value} {c P : Addr} (X : K.In h) (e : codeTb K v = some (c, P)) : v = .ref c ∧ PySem.W.CodeHd h c P ∧ K.lookup P = none := by
  unfold codeTb at e
  split at e
  · rename_i c0
    split at e
    · rename_i t dd vs sl hl
      split at e
      · rename_i P0 f1 t1 i1 t2 b1 i2 t3 q1 q2 q3 q4 q5
        split at e
        · rename_i hc
          obtain ⟨r1, r2, r3⟩ := hc
          cases e
          subst r1
          refine ⟨rfl, ⟨_, vs, _, _, _, _, _, _, _, X _ _ hl, rfl, rfl, q1, ?_, q2, q3, q4, q5, r2⟩, by simpa using r3⟩
          rw [Array.getD_eq_getD_getElem?, q1]
          rfl
        · cases e
      · cases e
    · cases e
  · cases e
/-! ## Classes -/
def plainTypes : List String := ["NoneType", "bool", "int", "str", "tuple", "list"]
def neB (K : Frag) (C : Addr) : Bool := match findIn K (.ref C) "__eq__" with
  | some (some (.ref f)) => (match K.lookup C with
    | some ⟨.type t, _, .cls cd, sl⟩ => decide (t = "type") && (match cd.mro, sl.toList with
      | [.ref C', .type o], [_, _, _, _, some (.builtin n), _] => C' == C && o == "object" && n == "object.__new__" && !cd.hasDel && nsOkIn K cd.ns && decide (nsIn K cd.ns "__ne__" = some none) && decide (nsIn K cd.ns "__eq__" = some (some (.ref f))) && (match K.lookup f with
        | some ⟨.type t, _, _, _⟩ => decide (t = "function")
        | _ => false)
      | _, _ => false)
    | _ => false)
  | _ => true
theorem ns_some_of {K : Frag} {h : Heap} {N : Addr} {m : Str → Option Value} {n : Str} {v : Value} (X : K.In h) (G : h.Ns N m) (e : nsIn K N n = some (some v)) : m n = some v := by
  obtain ⟨o, es, ep, ho, hd, _, hf⟩ := G
  unfold PySem.W.nsIn at e
  split at e
  · rename_i c d es' n' sl q
    have z := X _ _ q
    rw [ho] at z
    cases z
    cases hd
    split at e
    · rename_i y he
      cases e
      rw [← hf]
      unfold nsFind findBy
      rw [← Array.find?_toList, he]
      rfl
    · split at e <;> cases e
  · cases e
theorem neB_ok {K : Frag} {C : Addr} (c : neB K C = true) : ∀ f, findIn K (.ref C) "__eq__" = some (some (.ref f)) → ∀ (h : Heap) (x : Addr) (o : Obj), K.In h → h.get? x = some o → o.cls = .ref C → h.OwnEqNoNe x C f "object" [.type "object"] := by
  intro f hf h x o X hx hc
  unfold neB at c
  rw [hf] at c
  dsimp only at c
  split at c
  · rename_i t dd cd sl hl
    rw [Bool.and_eq_true] at c
    obtain ⟨ht, c⟩ := c
    have ht := of_decide_eq_true ht
    subst ht
    split at c
    · rename_i C' ob k0 k1 k2 k3 n k5 hm hs
      simp only [Bool.and_eq_true, beq_iff_eq, Bool.not_eq_true'] at c
      obtain ⟨⟨⟨⟨⟨⟨⟨rfl, rfl⟩, rfl⟩, hdel⟩, hok⟩, hne⟩, heq⟩, hfn⟩ := c
      obtain ⟨nm, bs, mro, ns, qn, hd, sn, sub, ab, col, del⟩ := cd
      dsimp only at hm hdel hok hne heq
      subst hm hdel
      have hsl : sl = #[k0, k1, k2, k3, some (.builtin "object.__new__"), k5] := by
        obtain ⟨l⟩ := sl
        simp only at hs
        rw [hs]
      subst hsl
      split at hfn
      · rename_i t2 dd2 dt2 sl2 hlf
        have ht2 := of_decide_eq_true hfn
        subst ht2
        have G : h.Ns ns (h.nsMap ns) := .of_isNs (PySem.W.isNs_of_in X hok)
        exact ⟨o, _, nm, qn, ns, bs, hd, sn, sub, ab, col, dd, k0, k1, k2, k3, k5, _, _, _, hx, hc, X _ _ hl, G, ns_some_of X G (of_decide_eq_true heq), X _ _ hlf, rfl, F.cmp_object.mro, F.cmp_object.eq.lookup, PySem.W.nsMap_none_of_in X hok (of_decide_eq_true hne)⟩
      · cases hfn
    · cases c
  · cases c
def clsB (d : PgD) (K : Frag) (k : String) : Bool := (He.Fa.glo (sS k)).ok K && (He.Fa.cls (sS k)).ok K && (He.Fa.mkr (sS k)).ok K && (d.fld.all fun p => !(p.1 == k) || (He.Fa.noat (sS k) (sS p.2)).ok K) &&
  He.eqO (findIn K (.ref (gaS K k)) "__class__") (some (some (.builtin "object.__class__"))) && He.eqO (specialIn K (.builtin "object.__class__") "__get__") (some (some (.builtin "getset_descriptor.__get__"))) && decide (takesIn K (.builtin "object.__class__") = some true) &&
  decide (mroIn K (gaS K k) (.type "object") = some true) && (plainTypes.all fun T => notFirst K (gaS K k) (.type T)) && neB K (gaS K k) && ((plainTypes ++ ["dict"]).all fun T => decide (kitOne K (.type T) (.ref (gaS K k)) = some false))
theorem clsB_ok {d : PgD} {K : Frag} {k : String} (c : clsB d K k = true) : ClsAt K (pgOf d) k (gaS K k) := by
  unfold clsB at c
  simp only [Bool.and_eq_true, List.all_eq_true, decide_eq_true_eq] at c
  obtain ⟨⟨⟨⟨⟨⟨⟨⟨⟨⟨c0, c1⟩, c2⟩, c3⟩, c4⟩, c5⟩, c6⟩, c7⟩, c8⟩, c9⟩, c10⟩ := c
  refine ⟨He.cls_ok c1, fun f hf => ?_, ⟨_, He.mkr_ok c2⟩, He.eqO_ok c4, He.eqO_ok c5, c6, c7, fun T hT => c8 T hT, neB_ok c9, fun T hT => c10 T (by
    simp only [List.mem_cons, List.not_mem_nil, or_false, plainTypes, List.mem_append] at hT ⊢
    rcases hT with h | h | h | h | h | h | h <;> simp [h])⟩
  have hm : (k, f) ∈ d.fld := by
    have : d.fld.contains (k, f) = true := hf
    simpa using this
  have := c3 (k, f) hm
  simp only [beq_self_eq_true, Bool.not_true, Bool.false_or] at this
  exact He.noat_ok this
def propB (K : Frag) (k f : String) : Bool := match findIn K (.ref (gaS K k)) (sS f) with
  | some (some (.ref p)) => He.eqO (specialIn K (.ref p) "__get__") (some (some (.builtin "property.__get__"))) && decide (takesIn K (.ref p) = some true) && (match recIn K p "property" with
    | some (.ref _ :: _) => true
    | _ => false)
  | _ => false
theorem propB_ok {K : Frag} {k f : String} (c : propB K k f = true) : ∃ p, PropOf K (gaS K k) (sS f) p (getter K (He.ma K (gaS K k) (sS f))) := by
  unfold propB at c
  split at c
  · rename_i p hp
    simp only [Bool.and_eq_true] at c
    obtain ⟨⟨c1, c2⟩, c3⟩ := c
    have hm : He.ma K (gaS K k) (sS f) = p := by unfold He.ma; rw [hp]
    rw [hm]
    split at c3
    · rename_i g rest hr
      refine ⟨p, hp, He.eqO_ok c1, of_decide_eq_true c2, rest, ?_⟩
      unfold getter
      rw [hr]
    · cases c3
  · cases c
/-! ## Errors -/
def exB (K : Frag) (k f : String) : Bool := (match K.lookup (gaS K k) with
    | some ⟨.type t, _, .cls cd, sl⟩ => decide (t = "type") && (match cd.mro, sl.toList with
      | .ref C' :: bm, [_, _, _, _, some (.builtin n), _] => C' == gaS K k && n == "ValueError.__new__" && !cd.hasDel && cd.hasDict && HandSPX.refsVE bm
      | _, _ => false)
    | _ => false) && He.eqO (findIn K (.ref (gaS K k)) "__setattr__") (some (some (.builtin "object.__setattr__"))) && He.eqO (findIn K (.ref (gaS K k)) "__getattribute__") (some (some (.builtin "BaseException.__getattribute__"))) &&
  He.eqO (findIn K (.ref (gaS K k)) "__getattr__") (some none) && He.eqO (findIn K (.ref (gaS K k)) (sS f)) (some none) && He.eqO (findIn K (.ref (gaS K k)) "__init__") (some (some (.ref (He.ma K (gaS K k) (sS "__init__"))))) &&
  decide (typeIn K (.ref (He.ma K (gaS K k) (sS "__init__"))) = some (.type "function")) && keepIn K (.ref (gaS K k)) && decide (subIn K (.ref (gaS K k)) (.type "BaseException") = some true) && decide (typeIn K (.ref (gaS K k)) = some (.type "type")) && hasDictIn K (gaS K k)
/-- the text of an error's __init__ -/
structure ExI (e : DE) (f : String) : Prop where
  nm : e.f = "__init__"
  k : e.k ≠ ""
  tx : ∃ p1 p2 q1 q2 q3 q4, defArgs e.st = eA f p1 p2 ∧ defBody e.st = eB f q1 q2 q3 q4 ∧ defScope e.st = eS f
  fn : FldN f
theorem exB_ok {d : PgD} {K : Frag} {e : DE} {f : String} {dt : FuncData} (c : exB K e.k f = true) (I : ExI e f) (hp : d.prop.contains (e.k, e.f) = false) (F : FunD K (sS e.f) e.qual (defArgs e.st) (defBody e.st) (defScope e.st) [] [] (defAd d K e) dt) : ExT K (gaS K e.k) (He.ma K (gaS K e.k) (sS "__init__")) f := by
  unfold exB at c
  simp only [Bool.and_eq_true, decide_eq_true_eq] at c
  obtain ⟨⟨⟨⟨⟨⟨⟨⟨⟨⟨c0, c1⟩, c2⟩, c3⟩, c4⟩, c5⟩, c6⟩, c7⟩, c8⟩, c9⟩, c10⟩ := c
  have had : defAd d K e = He.ma K (gaS K e.k) (sS "__init__") := by
    unfold defAd
    rw [if_neg I.k, hp, I.nm]
    rfl
  refine ⟨?_, He.eqO_ok c1, He.eqO_ok c2, He.eqO_ok c3, He.eqO_ok c4, He.eqO_ok c5, c6, c7, c8, c9, c10, ?_⟩
  · split at c0
    · rename_i t dd cd sl hl
      rw [Bool.and_eq_true] at c0
      obtain ⟨ht, c0⟩ := c0
      have ht := of_decide_eq_true ht
      subst ht
      split at c0
      · rename_i C' bm k0 k1 k2 k3 n k5 hm hs
        simp only [Bool.and_eq_true, beq_iff_eq, Bool.not_eq_true'] at c0
        obtain ⟨⟨⟨⟨rfl, rfl⟩, hdel⟩, hdc⟩, hbm⟩ := c0
        obtain ⟨nm, bs, mro, ns, qn, hd, sn, sub, ab, col, del⟩ := cd
        dsimp only at hm hdel hdc
        subst hm hdel hdc
        have hsl : sl = #[k0, k1, k2, k3, some (.builtin "ValueError.__new__"), k5] := by
          obtain ⟨l⟩ := sl
          simp only at hs
          rw [hs]
        subst hsl
        exact ⟨nm, qn, ns, bs, bm, sn, sub, ab, col, dd, k0, k1, k2, k3, k5, hl, hbm⟩
      · cases c0
    · cases c0
  · obtain ⟨⟨oc, od, dV, kV, doc, pm, an, cdv, ct, osl, e1, e2, e3, e4, _⟩, _⟩ := F
    obtain ⟨p1, p2, q1, q2, q3, q4, t1, t2, t3⟩ := I.tx
    rw [had] at e2
    rw [e1] at e2
    rw [t1, t2, t3, I.nm] at e2
    have hdV : dV = .none := by
      rcases e4 with ⟨_, z⟩ | ⟨z, _⟩
      · exact z
      · exact absurd rfl z
    subst hdV
    exact ⟨_, oc, od, kV, doc, pm, an, cdv, ct, osl, p1, p2, q1, q2, q3, q4, e2, e3⟩
end Uk
end
section
set_option Elab.async false
set_option linter.all false
set_option maxRecDepth 100000
set_option autoImplicit false
set_option maxHeartbeats 2000000
namespace Uk
open PySem PySem.Spec PyProof.Rows L2
open PySem.W (Frag nsIn findIn specialIn takesIn mroIn kitOne keepIn isFn subIn typeIn hasDictIn exmOne recIn notFirst codeIn nsOkIn)
/-! ## All of the written part -/
def defB (d : PgD) (K : Frag) (e : DE) : Bool := if e.k = "" then (He.Fa.glo (sS e.f)).ok K else if d.prop.contains (e.k, e.f) then propB K e.k e.f else (He.Fa.meth (sS e.k) (sS e.f)).ok K
def gfB (d : PgD) (K : Frag) : Bool := (d.cons.all (conB K)) && (d.dcs.all (dctB K)) && tbsB K && (bnames.all fun x => (He.Fa.free (sS x)).ok K) && (d.ds.all fun q => defB d K q.1) && (d.cls.all (clsB d K)) && (d.exns.all fun q => (He.Fa.glo (sS q.1)).ok K && match q.2 with
    | some f => exB K q.1 f
    | none => true) && (d.exns.all fun q => d.exns.all fun p => decide (exmOne K (.ref (gaS K q.1)) (.ref (gaS K p.1)) = some (q.1 == p.1))) && (d.cls.all fun k => d.cls.all fun k' => decide (kitOne K (.ref (gaS K k)) (.ref (gaS K k')) = some (k == k')))
/-- the code object of a def and its table -/
def lamB' (K : Frag) (a : Addr) : Bool := match K.lookup a with
  | some ⟨_, _, .func fd, _⟩ => (codeTb K fd.code).isSome
  | _ => false
abbrev AlU : Type := Bool × List He.FnW × List (Option (List (Option (Str × Int))))
def PgD.es (d : PgD) : List DE := d.ds.map (·.1) ++ d.xs
def obsU (d : PgD) (K : Frag) : AlU := (gfB d K && d.es.all fun e => e.ok K (defAd d K e) && lamB' K (defAd d K e), d.es.map fun e => fnV K (defAd d K e), d.dcs.map fun q => He.dicW K (gaS K q.1))
def valU (d : PgD) (w : World) : AlU := (true, d.es.map DE.val, d.dcs.map fun q => some (He.keysIn w.params (q.2.map fun p => sS p.1)))
def tabsB (K : Frag) (g : Addr → Option Obj) : Bool := (tbs K).all fun t => tabE (g t.2.1)
def obsUG (n : List Addr) (d : PgD) (g : Addr → Option Obj) : AlU := let o := obsU d (He.frG g n); (o.1 && tabsB (He.frG g n) g, o.2)
def hookU (n : List Addr) (d : PgD) : PySem.W.Hook where
  α := AlU
  obs := fun s => obsUG n d s.heap.get?
  val := fun w => valU d w
  says := fun w h => ∃ K : Frag, K.In h ∧ obsU d K = valU d w ∧ ∀ t ∈ tbs K, h.get? t.2.1 = some { cls := .none, data := .fields #[] }
  of := fun w s e => by
    have e1 : ((obsU d (He.frG s.heap.get? n)).1 && tabsB (He.frG s.heap.get? n) s.heap.get?) = true := congrArg (fun z : AlU => z.1) e
    have e2 := congrArg (fun z : AlU => z.2) e
    rw [Bool.and_eq_true] at e1
    refine ⟨_, He.frG_in, Prod.ext e1.1 e2, fun t ht => tabE_ok ?_⟩
    exact List.all_eq_true.mp e1.2 t ht
  keeps := fun _ _ _ ⟨K, hK, c, tb⟩ k => ⟨K, PySem.W.Frag.In.keeps hK k, c, fun t ht => k _ _ (tb t ht)⟩
theorem obsUG_eq {n : List Addr} {d : PgD} {g : Addr → Option Obj} {s : Shared} (h : ∀ a, g a = s.heap.get? a) : obsUG n d g = (hookU n d).obs s := by
  have e : g = s.heap.get? := funext h
  rw [e] <;> rfl
/-- arguments go to the names, one by one -/
def BindP (e : DE) (ps : List Str) : Prop := ∀ (kV doc pm : Value) (an : Option Addr) (cdv ct : Value) (us : List Value), us.length = ps.length → bindArgs (PySem.W.fnOf (sS e.f) e.qual (defArgs e.st) (defBody e.st) (defScope e.st) .none kV doc pm an cdv ct) ⟨us, []⟩ = pure (ps.zip us)
def BindsAll : List (DE × FDef) → Prop
  | [] => True
  | q :: r => BindP q.1 (q.2.ps.map sS) ∧ BindsAll r
theorem BindsAll.in {l : List (DE × FDef)} (h : BindsAll l) {q : DE × FDef} (hq : q ∈ l) : BindP q.1 (q.2.ps.map sS) := by
  induction l with
  | nil => cases hq
  | cons a r ih =>
    rcases List.mem_cons.mp hq with rfl | hq
    · exact h.1
    · exact ih h.2 hq
/-- every error has its text -/
def ExAll (xs : List DE) : List (String × Option String) → Prop
  | [] => True
  | (k, some f) :: r => (∃ e ∈ xs, e.k = k ∧ ExI e f) ∧ ExAll xs r
  | (_, none) :: r => ExAll xs r
theorem ExAll.in {xs : List DE} : ∀ {l : List (String × Option String)}, ExAll xs l → ∀ {k f : String}, (k, some f) ∈ l → ∃ e ∈ xs, e.k = k ∧ ExI e f
  | [], _, _, _, hq => by cases hq
  | (k0, some f0) :: r, h, k, f, hq => by
    rcases List.mem_cons.mp hq with e | hq
    · cases e; exact h.1
    · exact ExAll.in h.2 hq
  | (k0, none) :: r, h, k, f, hq => by
    rcases List.mem_cons.mp hq with e | hq
    · cases e
    · exact ExAll.in (l := r) h hq
/-- what is plain of a program's data: its defs read as the text, arguments bind, errors are written out, no class without a name, properties are no errors' -/
structure Good (d : PgD) : Prop where
  ck : (d.ds.all fun q => ckD (pgOf d) (defArgs q.1.st) (defBody q.1.st) (defScope q.1.st) q.2) = true
  bi : BindsAll d.ds
  ex : ExAll d.xs d.exns
  nk : d.cls.contains "" = false
  px : (d.exns.all fun q => !d.prop.contains (q.1, "__init__")) = true
section
variable {d : PgD} {K : Frag} {h : Heap} {mg : Str → Option Value} {w : World}
theorem def_of (c : obsU d K = valU d w) {e : DE} (he : e ∈ d.es) : ∃ dt, FunD K (sS e.f) e.qual (defArgs e.st) (defBody e.st) (defScope e.st) [] [] (defAd d K e) dt := by
  have c1 : (gfB d K && d.es.all fun e => e.ok K (defAd d K e) && lamB' K (defAd d K e)) = true := congrArg (fun z : AlU => z.1) c
  have c2 : d.es.map (fun e => fnV K (defAd d K e)) = d.es.map DE.val := congrArg (fun z : AlU => z.2.1) c
  rw [Bool.and_eq_true, List.all_eq_true] at c1
  have c3 := c1.2 e he
  rw [Bool.and_eq_true] at c3
  exact DE.funD (List.map_inj_left.mp c2 e he) c3.1
theorem tbs_uni (c : obsU d K = valU d w) {t u : Addr × Addr × Str} (ht : t ∈ tbs K) (hu : u ∈ tbs K) (e : t.2.1 = u.2.1) : t.2.2 = u.2.2 := by
  have c1 : (gfB d K && d.es.all fun e => e.ok K (defAd d K e) && lamB' K (defAd d K e)) = true := congrArg (fun z : AlU => z.1) c
  rw [Bool.and_eq_true] at c1
  have c1 := c1.1
  unfold gfB at c1
  simp only [Bool.and_eq_true] at c1
  have c2 : tbsB K = true := by
    obtain ⟨⟨⟨⟨⟨⟨⟨⟨g1, ga⟩, gb⟩, g2⟩, g3⟩, g4⟩, g5⟩, g6⟩, g7⟩ := c1
    exact gb
  unfold tbsB at c2
  have c3 := List.all_eq_true.mp (List.all_eq_true.mp c2 t ht) u hu
  rw [Bool.or_eq_true, Bool.not_eq_true'] at c3
  rcases c3 with z | z
  · rw [e, beq_self_eq_true] at z
    cases z
  · exact of_decide_eq_true z
theorem fnAt_of (G : Good d) (c : obsU d K = valU d w) {q : DE × FDef} (hq : q ∈ d.ds) : ∃ dt, FnAt K (ckD (pgOf d)) q.2 (defAd d K q.1) dt := by
  have hqe : q.1 ∈ d.es := List.mem_append_left _ (List.mem_map.mpr ⟨q, hq, rfl⟩)
  obtain ⟨dt, F⟩ := def_of c (e := q.1) hqe
  refine ⟨dt, ⟨_, _, _, _, _, _, _, F, List.all_eq_true.mp G.ck q hq⟩, FunD.bindsN F (G.bi.in hq), ?_⟩
  have c1 : (gfB d K && d.es.all fun e => e.ok K (defAd d K e) && lamB' K (defAd d K e)) = true := congrArg (fun z : AlU => z.1) c
  rw [Bool.and_eq_true, List.all_eq_true] at c1
  have c2 := c1.2 q.1 hqe
  rw [Bool.and_eq_true] at c2
  have c2 := c2.2
  obtain ⟨oc, od, dV, kV, doc, pm, an, cdv, ct, osl, e1, lk, hcd, _, _⟩ := F.ex
  unfold lamB' at c2
  rw [lk] at c2
  dsimp only at c2
  obtain ⟨⟨cc, P⟩, hcc⟩ := Option.isSome_iff_exists.mp c2
  have hm : (cc, P, lamQ dt.qualname) ∈ tbs K := by
    refine List.mem_filterMap.mpr ⟨_, lookup_in lk, ?_⟩
    unfold tbEnt
    dsimp only
    rw [hcc]
    rfl
  have hv : dt.code = .ref cc := by
    unfold codeTb at hcc
    split at hcc
    · rename_i c0 hc0
      split at hcc
      · split at hcc
        · split at hcc
          · cases hcc
            exact hc0
          · cases hcc
        · cases hcc
      · cases hcc
    · cases hcc
  exact ⟨cc, P, hv, hm, fun t ht e => tbs_uni c ht hm e⟩
theorem gf_of (G : Good d) (X : K.In h) (hm : h.Ns mainGlobals mg) (c : obsU d K = valU d w) : GF K mg w (ckD (pgOf d)) (pgOf d) := by
  have c1 : (gfB d K && d.es.all fun e => e.ok K (defAd d K e) && lamB' K (defAd d K e)) = true := congrArg (fun z : AlU => z.1) c
  rw [Bool.and_eq_true] at c1
  have c1 := c1.1
  unfold gfB at c1
  simp only [Bool.and_eq_true, List.all_eq_true, decide_eq_true_eq] at c1
  obtain ⟨⟨⟨⟨⟨⟨⟨⟨g1, ga⟩, gb⟩, g2⟩, g3⟩, g4⟩, g5⟩, g6⟩, g7⟩ := c1
  have clsM : ∀ {k : String}, (pgOf d).cls k = true → k ∈ d.cls := fun {k} hk => by
    have : d.cls.contains k = true := hk
    simpa using this
  have clsG : ∀ {k : String}, (pgOf d).cls k = true → mg (sS k) = some (.ref (gaS K k)) := fun {k} hk => by
    have := g4 k (clsM hk)
    unfold clsB at this
    simp only [Bool.and_eq_true] at this
    exact He.glo_ok X hm this.1.1.1.1.1.1.1.1.1.1
  have clsN : ∀ {k : String}, (pgOf d).cls k = true → k ≠ "" := fun {k} hk e => by
    rw [e] at hk
    have := G.nk
    rw [show d.cls.contains "" = true from hk] at this
    cases this
  refine ⟨fun x xs hx => ?_, fun x kvs hx => ?_, fun x dd hx => ?_, fun x hx => He.free_ok X hm (g2 x hx), fun f fd hf => ?_, fun k hk => ⟨_, clsG hk, clsB_ok (g4 k (clsM hk))⟩, fun k m fd C hk hf hp hC => ?_, fun k m fd C hk hf hp hC => ?_, fun k f hf => ?_, fun k k' f f' C C' h1 h2 h3 h4 => ?_, fun k k' C C' h1 h2 h3 h4 => ?_⟩
  · obtain ⟨a, o, h1, h2, h3, h4⟩ := conB_tup (g1 (x, .tup xs) (lookup_in (show d.cons.lookup x = some (.tup xs) from hx)))
    exact ⟨a, o, PySem.W.mg_of X hm h1, h2, h3, h4⟩
  · have hq := lookup_in (show d.dcs.lookup x = some kvs from hx)
    have h1 := ga (x, kvs) hq
    unfold dctB at h1
    rw [Bool.and_eq_true] at h1
    have c3 : d.dcs.map (fun q => He.dicW K (gaS K q.1)) = d.dcs.map fun q => some (He.keysIn w.params (q.2.map fun p => sS p.1)) := congrArg (fun z : AlU => z.2.2) c
    have h2 := List.map_inj_left.mp c3 (x, kvs) hq
    obtain ⟨es, n, KD⟩ := He.dicW_ok h2
    have h3 := h1.2
    have h4 := KD.at_
    dsimp only at h3
    rw [h4] at h3
    exact ⟨gaS K x, es, n, He.glo_ok X hm h1.1, KD, entB_ok h3⟩
  · have h1 := g1 (x, dd) (lookup_in (show d.cons.lookup x = some dd from hx))
    unfold conB at h1
    split at h1
    · rename_i u hu
      obtain ⟨v, hr, hv⟩ := valB_ok dd u h1
      exact ⟨v, u, PySem.W.mg_of X hm hu, hr, hv⟩
    · cases h1
  · obtain ⟨q, hq, e1, e2, e3⟩ := PgD.fn_in hf
    obtain ⟨dt, F⟩ := fnAt_of G c hq
    have h1 := g3 q hq
    unfold defB at h1
    rw [if_pos e1] at h1
    have had : defAd d K q.1 = gaS K f := by unfold defAd; rw [if_pos e1, e2]
    rw [had, e3] at F
    rw [e2] at h1
    exact ⟨_, dt, He.glo_ok X hm h1, F⟩
  · obtain ⟨q, hq, e1, e2, e3⟩ := PgD.fn_in hf
    obtain ⟨dt, F⟩ := fnAt_of G c hq
    have h1 := g3 q hq
    have hk0 : ¬ q.1.k = "" := by rw [e1]; exact clsN hk
    have hp0 : d.prop.contains (q.1.k, q.1.f) = false := by rw [e1, e2]; exact hp
    unfold defB at h1
    rw [if_neg hk0, hp0] at h1
    have had : defAd d K q.1 = He.ma K (gaS K k) (sS m) := by
      unfold defAd
      rw [if_neg hk0, hp0, e1, e2]
      rfl
    rw [had, e3] at F
    rw [e1, e2] at h1
    have hC2 := clsG hk
    rw [hC] at hC2
    cases hC2
    exact ⟨_, dt, He.meth_ok h1, F⟩
  · obtain ⟨q, hq, e1, e2, e3⟩ := PgD.fn_in hf
    obtain ⟨dt, F⟩ := fnAt_of G c hq
    have h1 := g3 q hq
    have hk0 : ¬ q.1.k = "" := by rw [e1]; exact clsN hk
    have hp0 : d.prop.contains (q.1.k, q.1.f) = true := by rw [e1, e2]; exact hp
    unfold defB at h1
    rw [if_neg hk0, hp0] at h1
    have had : defAd d K q.1 = getter K (He.ma K (gaS K k) (sS m)) := by
      unfold defAd
      rw [if_neg hk0, hp0, e1, e2]
      rfl
    rw [had, e3] at F
    rw [e1, e2] at h1
    have hC2 := clsG hk
    rw [hC] at hC2
    cases hC2
    obtain ⟨p, hp1⟩ := propB_ok h1
    exact ⟨p, _, dt, hp1, F⟩
  · have hm1 := lookup_in (show d.exns.lookup k = some (some f) from hf)
    have h1 := g5 (k, some f) hm1
    obtain ⟨e, he, ek, I⟩ := G.ex.in hm1
    obtain ⟨dt, F⟩ := def_of c (e := e) (List.mem_append_right _ he)
    subst ek
    have hpx := List.all_eq_true.mp G.px (e.k, some f) hm1
    have hpx : (!d.prop.contains (e.k, "__init__")) = true := hpx
    rw [Bool.not_eq_true'] at hpx
    exact ⟨_, _, He.glo_ok X hm h1.1, exB_ok h1.2 I (by rw [I.nm]; exact hpx) F, I.fn⟩
  · have m1 := lookup_in (show d.exns.lookup k = some f from h1)
    have m2 := lookup_in (show d.exns.lookup k' = some f' from h2)
    have a1 := He.glo_ok X hm (g5 _ m1).1
    have a2 := He.glo_ok X hm (g5 _ m2).1
    rw [show mg (sS k) = _ from h3] at a1
    rw [show mg (sS k') = _ from h4] at a2
    cases a1
    cases a2
    exact g6 _ m1 _ m2
  · have a1 := clsG h1
    have a2 := clsG h2
    rw [h3] at a1
    rw [h4] at a2
    cases a1
    cases a2
    exact g7 k (clsM h1) k' (clsM h2)
end
/-! ## A law -/
/-- the law's def answers True for every script -/
def Says (d : PgD) (n k : Nat) : Prop := ∀ ns : List Int, ns.length ≤ n → ∃ g, call (pgOf d) k "" "law" [.fro (ns.map D.int)] [] = .ok (.bl true) g
theorem vals_ints (K : Frag) (r : List Addr) (H : Hp) : ∀ ns : List Int, VRs K r H (ns.map D.int) (ns.map V.int)
  | [] => VRs.nil_iff.mpr rfl
  | n :: ns => .cons .int (vals_ints K r H ns)
theorem spec_of {w : World} {d : PgD} {K : Frag} {mg : Str → Option Value} {n k : Nat} {fd : FDef} (hf : (pgOf d).fn "" "law" = some fd) (hp : fd.ps.length = 1) (S : Says d n k) (H : Hp) (a : Addr) (ns : List Int) (hl : ns.length ≤ n) (hT : ∀ t ∈ tbs K, H t.2.1 = some (.tbl #[])) (hS : FrL K H a (ns.map V.int)) :
    SpOf K mg w fd.ps.length (call (pgOf d) k "" "law") [.ref a] H (fun v _ => v = .bl true) fun _ _ _ => False := by
  obtain ⟨g, hg⟩ := S ns hl
  refine ⟨by rw [hp]; rfl, [], [], [.fro (ns.map D.int)], ⟨rfl, .nil, fun i a o e => by simp at e, fun t ht => ⟨#[], hT t ht, True.intro, fun pos cv z => by
    have z : codeAmong pos [] = some cv := z
    simp [codeAmong] at z⟩⟩, .cons (by unfold VR; exact ⟨a, _, rfl, hS, vals_ints K [] H ns⟩) (VRs.nil_iff.mpr rfl), ?_⟩
  rw [hg]
  exact fun r' v H' x R q => q.bl_inv
/-- the law's def called, tables and all: the script is frozen -/
theorem law_callF {P : Program} {w : World} {K : Frag} {mg mb : Str → Option Value} {CX : CXT} {k : Nat} {fa a : Addr} {fd : FuncData} {x : Str} {sp : Sp} {s₁ : Shared} {vs : List Value} {ns : List Int} {T : List Addr} (KX : K.In s₁.heap) (hns : s₁.heap.Ns mainGlobals mg) (hb : s₁.heap.Ns builtinsNs mb)
    (hbb : ∀ x : Str, x ≠ "__name__" → mb x = bootBuiltins x) (hlim : s₁.heap.NoLimit) (hg : s₁.gens = #[]) (hT : ∀ p ∈ T, s₁.heap.get? p = some { cls := .none, data := .fields #[] }) (nT : ∀ p ∈ T, K.lookup p = none) (cT : ∀ p ∈ T, ∃ c, PySem.W.CodeHd s₁.heap c p)
    (ha : s₁.heap.get? a = some { cls := .type "list", data := .seq vs.toArray }) (hi : IntsAre vs ns) (hl : ns.length ≤ sizeLine) (hr : Room k callerA)
    (F : ∀ base : Heap, K.In base → base.Ns mainGlobals mg → (∀ b o, s₁.heap.get? b = some o → (∀ vs n, o.data ≠ .seq vs n) → o.data ≠ .fields #[] → base.get? b = some o) → FnOk P w K mg base CX k fa fd [x] sp) (hbind : ∀ (s : Shared) (u : Value), BindsTo s fd ⟨[u], []⟩ [(x, u)])
    (hsp : ∀ H : Hp, (∀ p ∈ T, H p = some (.tbl #[])) → FrL K H a (ns.map V.int) → sp [.ref a] H (fun v _ => v = .bl true) fun _ _ _ => False) (hCX : ∀ H e s', CX [] H s₁ (fun _ _ _ => False) e s' → False) :
    codeAny (model P w) callerA (.call (.ref fa) ⟨[.ref a], []⟩) (fun r s' => r = .ok (.ret (.bool true)) ∧ OldK s₁.heap s'.heap ∧ s'.os = s₁.os ∧ AllBare s'.gens) s₁ := by
  have rv := L2.vals_ints hi
  have lenV := hi.length
  let H : Hp := fun b => if b = a ∧ K.lookup a = none then some (.frz { cls := .type "list", data := .seq vs.toArray } (.lst (ns.map V.int))) else if b ∈ T then some (.tbl #[]) else none
  have aT : a ∉ T := fun z => by
    have e := hT a z
    rw [ha] at e
    have e : Data.seq vs.toArray _ = Data.fields #[] := congrArg Obj.data (Option.some.inj e)
    cases e
  have H1 : ∀ p ∈ T, H p = some (.tbl #[]) := fun p hp => by
    show (if p = a ∧ K.lookup a = none then _ else if p ∈ T then some (HO.tbl #[]) else none) = _
    rw [if_neg (fun z => aT (by rw [← z.1]; exact hp)), if_pos hp]
  have H2 : ∀ b, b ∉ T → H b = if b = a ∧ K.lookup a = none then some (.frz { cls := .type "list", data := .seq vs.toArray } (.lst (ns.map V.int))) else none := fun b nb => by
    show (if b = a ∧ K.lookup a = none then _ else if b ∈ T then some (HO.tbl #[]) else none) = _
    rw [if_neg nb]
  have fr : FrL K H a (ns.map V.int) := by
    cases q : K.lookup a with
    | none => exact .inl ⟨_, by rw [H2 a aT]; exact if_pos ⟨rfl, q⟩⟩
    | some o =>
      have e := KX a o q
      rw [ha] at e
      cases e
      exact .inr ⟨_, vs.toArray, _, q, rfl, rfl, rfl, by rw [List.size_toArray, lenV]; exact hl, by simpa using rv⟩
  have ok : HOk P w H s₁.heap := fun b u e => by
    by_cases hb : b ∈ T
    · rw [H1 b hb] at e
      cases e
      exact hT b hb
    · rw [H2 b hb] at e
      split at e
      · rename_i q
        cases e
        rw [q.1]
        exact ⟨ha, by rw [List.length_map]; exact hl, vs, _, rv, ha⟩
      · cases e
  have free : ∀ b o, s₁.heap.get? b = some o → (∀ vs n, o.data ≠ .seq vs n) → o.data ≠ .fields #[] → H b = none := fun b o e q1 q2 => by
    by_cases hb : b ∈ T
    · rw [hT b hb] at e
      cases e
      exact absurd rfl q2
    · rw [H2 b hb, if_neg]
      rintro ⟨rfl, _⟩
      rw [ha] at e
      cases e
      exact q1 _ _ rfl
  have dict0 : ∀ {b : Addr} {o : Obj} {es : Array DictEntry} {ep : Nat}, s₁.heap.get? b = some o → o.data = .dict es ep → (hidT s₁.heap H).get? b = some o := fun {b o es ep} e q => hidT_get e (free b o e (fun vs n z => by rw [q] at z; cases z) fun z => by rw [q] at z; cases z)
  have nsB : ∀ {b : Addr} {m : Str → Option Value}, s₁.heap.Ns b m → (hidT s₁.heap H).Ns b m := fun {b m} ⟨o, es, ep, e, q, z⟩ => ⟨o, es, ep, dict0 e q, q, z⟩
  have inB : K.In (hidT s₁.heap H) := fun b o e => hidT_get (KX b o e) (by
    by_cases hb : b ∈ T
    · rw [nT b hb] at e
      cases e
    · rw [H2 b hb, if_neg]
      rintro ⟨rfl, q⟩
      have e : List.lookup b K = some o := e
      rw [show List.lookup b K = none from q] at e
      cases e)
  have modB : L2.Mod K mg (hidT s₁.heap H) := ⟨inB, nsB hns, ⟨mb, nsB hb, hbb⟩, let ⟨mc, h1, h2⟩ := hlim; ⟨mc, nsB h1, h2⟩⟩
  have e0 : Env0 P w K mg (hidT s₁.heap H) callerA [] s₁ H := ⟨rfl, modB, fun b o e => of_hidT e, Nat.le_of_eq (hidT_size _ _), trivial, fun b q => absurd (show b ∈ ([] : List Addr) from q) List.not_mem_nil, ok, .of_eq hg⟩
  have FF := F _ inB (nsB hns) fun b o e q1 q2 => hidT_get e (free b o e q1 q2)
  refine codeAny_mono (FF.run callerA [] s₁ H ⟨[.ref a], []⟩ [.ref a] [.ref a] _ _ hr e0 (hbind s₁ (.ref a)) (.cons rfl .nil) (hsp H H1 fr)) fun res s2 h => ?_
  cases res with
  | error e => exact (hCX H e s2 h).elim
  | ok fl =>
    cases fl with
    | ret u =>
      obtain ⟨v, H3, os, bare, un, ok3, ru, q⟩ := h
      have q : v = .bl true := q
      subst q
      obtain rfl : u = Value.bool true := ru
      have stay : ∀ b o, b ∉ T → s₁.heap.get? b = some o → s2.heap.get? b = some o := fun b o nb e => by
        cases q : H b with
        | none => exact un.keep b o e q List.not_mem_nil List.not_mem_nil
        | some u =>
          rw [H2 b nb] at q
          split at q
          · rename_i z
            obtain ⟨rfl, z⟩ := z
            have z3 := un.frzs b _ _ (show H b = _ by rw [H2 b nb]; exact if_pos ⟨rfl, z⟩)
            obtain ⟨g3, _⟩ := ok3 b _ z3
            rw [ha] at e
            cases e
            exact g3
          · cases q
      have grow : ∀ p ∈ T, ∃ more : Array Value, s2.heap.get? p = some { cls := .none, data := .fields more } := fun p hp => by
        obtain ⟨more, z⟩ := un.tbls p #[] (H1 p hp)
        exact ⟨_, ok3 p _ z⟩
      refine ⟨rfl, ⟨fun b o e => ?_, fun b o e => ?_⟩, os, bare⟩
      · by_cases hb : b ∈ T
        · obtain ⟨more, hm⟩ := grow b hb
          obtain ⟨c, hc⟩ := cT b hb
          have e2 := hT b hb
          rw [e] at e2
          cases e2
          exact .inr (.inl ⟨(hc.tab (hT b hb)).isCodeTable, rfl, #[], more, rfl, by rw [Array.empty_append]; exact hm⟩)
        · exact .inl (stay b o hb e)
      · by_cases hb : b ∈ T
        · obtain ⟨more, hm⟩ := grow b hb
          exact ⟨_, hm⟩
        · exact ⟨o, stay b o hb e⟩
    | next => exact False.elim h
    | brk => exact False.elim h
    | cont => exact False.elim h
theorem law_walk {d : PgD} {l : PySem.W.OpenLaw} {n k : Nat} {m : List Addr} {q : Program} {loose : List Str} {XP : (Str → Option Value) → Heap → Prop} {df : DefRec} {e : DE} {fd : FDef} {x : String} (G : Good d) (he : (e, fd) ∈ d.ds) (hek : e.k = "") (hef : e.f = "law")
    (hf : (pgOf d).fn "" "law" = some fd) (hps : fd.ps = [x]) (hn : l.most = some n) (hn2 : n ≤ sizeLine) (hdf : df.params.defaults = []) (hname : df.name = sS "law") (hr : Room k callerA) (S : Says d n k) :
    PySem.W.WalkO q loose XP (hookU m d).says l.row.toRowW df [] (fun f vs => PySem.call f vs) := by
  refine Att.attach_call hn hdf fun w s₀ s₁ mg mb fa o pm cd doc a vs ns GT Y ho hd hcd hmg hobj hints hlen hg => ?_
  obtain ⟨K, KX, c, tb⟩ := Y
  have gf := gf_of G KX GT.T.g c
  obtain ⟨dt, F⟩ := def_of c (e := e) (List.mem_append_left _ (List.mem_map.mpr ⟨_, he, rfl⟩))
  obtain ⟨dt2, F2⟩ := fnAt_of G c he
  have had : defAd d K e = fa := by
    obtain ⟨a2, dt3, h1, h2⟩ := gf.fn "law" fd hf
    have h3 : mg (sS "law") = some (.ref fa) := by rw [← hname]; exact hmg
    have c1 : (gfB d K && d.es.all fun e => e.ok K (defAd d K e) && lamB' K (defAd d K e)) = true := congrArg (fun z : AlU => z.1) c
    rw [Bool.and_eq_true] at c1
    have c1 := c1.1
    unfold gfB at c1
    simp only [Bool.and_eq_true, List.all_eq_true, decide_eq_true_eq] at c1
    have g3 := c1.1.1.1.1.2 (e, fd) he
    unfold defB at g3
    rw [if_pos hek, hef] at g3
    have h4 := He.glo_ok KX GT.T.g g3
    rw [h3] at h4
    unfold defAd
    rw [if_pos hek, hef]
    cases h4
    rfl
  rw [had] at F F2
  have bb : ∀ (s : Shared) (u : Value), BindsTo s dt ⟨[u], []⟩ [(sS x, u)] := fun s u => by
    have := FunD.bindsA (ps := fd.ps.map sS) F (G.bi.in he) s [u] (by rw [hps]; rfl)
    rw [hps] at this
    exact this
  have edt : dt2 = dt := by
    obtain ⟨⟨_, _, _, _, _, _, _, F3, _⟩, _⟩ := F2
    obtain ⟨_, _, _, _, _, _, _, _, _, _, _, l1, _⟩ := F.ex
    obtain ⟨_, _, _, _, _, _, _, _, _, _, _, l2, _⟩ := F3.ex
    rw [l1] at l2
    cases l2
    rfl
  subst edt
  have hd3 : ∀ t ∈ tbs K, ∃ v, codeTb K v = some (t.1, t.2.1) := fun t ht => by
    obtain ⟨p, _, hp⟩ := List.mem_filterMap.mp ht
    unfold tbEnt at hp
    split at hp
    · rename_i fd0 _
      obtain ⟨q, hq, rfl⟩ := Option.map_eq_some_iff.mp hp
      exact ⟨fd0.code, hq⟩
    · cases hp
  have memT : ∀ p, p ∈ (tbs K).map (fun t => t.2.1) → ∃ t ∈ tbs K, t.2.1 = p := fun p hp => List.mem_map.mp hp
  refine law_callF (T := (tbs K).map fun t => t.2.1) (CX := L2.CX l.prog w) (sp := SpOf K mg w fd.ps.length (call (pgOf d) k "" "law")) KX GT.T.g GT.T.b GT.T.builtins GT.T.nolimit hg (fun p hp => ?_) (fun p hp => ?_) (fun p hp => ?_) hobj hints (Nat.le_trans hlen hn2) hr (fun base hb1 hb2 hb3 => ?_) bb (fun H hO hS => spec_of hf (by rw [hps]; rfl) S H a ns hlen (fun t ht => hO _ (List.mem_map.mpr ⟨t, ht, rfl⟩)) hS) fun H ee s' z => ?_
  · obtain ⟨t, ht, rfl⟩ := memT p hp
    exact tb t ht
  · obtain ⟨t, ht, rfl⟩ := memT p hp
    obtain ⟨v, hv⟩ := hd3 t ht
    exact (codeTb_hd KX hv).2.2
  · obtain ⟨t, ht, rfl⟩ := memT p hp
    obtain ⟨v, hv⟩ := hd3 t ht
    exact ⟨_, (codeTb_hd KX hv).2.1⟩
  · have TB : ∀ t ∈ tbs K, LamX.TabB base mg t.1 t.2.1 := fun t ht => by
      obtain ⟨v, hv⟩ := hd3 t ht
      have gP := tb t ht
      refine ⟨(codeTb_hd hb1 hv).2.1, ?_, fun z => ?_⟩
      · obtain ⟨bm, ob, b1, b2, b3, b4, b5, b6⟩ := GT.T.bmain
        have nG : bm ≠ mainGlobals := fun q => by
          obtain ⟨o, es, ep, e, hd, _⟩ := GT.T.g
          rw [q, e] at b3
          cases b3
          rw [hd] at b6
          cases b6
        have nP : bm ≠ t.2.1 := fun q => by
          rw [q, gP] at b3
          cases b3
          cases b6
        exact ⟨bm, ob, b1, b2, nG, nP, hb3 _ _ b3 (fun vs n z => by rw [b6] at z; cases z) (fun z => by rw [b6] at z; cases z), b4, b5, b6⟩
      · obtain ⟨o, es, ep, e, hd, _⟩ := GT.T.g
        rw [z, gP] at e
        cases e
        cases hd
    have := all_calls (prog := l.prog) (w := w) (base := base) gf TB k "" "law" fd fa dt2 hf F2
    rw [hps] at this ⊢
    exact this
  · obtain ⟨_, _, _, _, _, _, _, _, _, _, _, _, z⟩ := z
    exact z.elim
end Uk
end
section
set_option Elab.async false
set_option linter.all false
set_option maxRecDepth 100000
set_option autoImplicit false
set_option maxHeartbeats 0
namespace Uk
def d_is_integer : FDef := ⟨["value"], ["value"],
 (.c (.ret (.and_ (.isi (.loc 0) "int") (.not_ (.isi (.loc 0) "bool"))))
 .n)⟩
def d_blocks_of : FDef := ⟨["statement"], ["statement"],
 (.c (.ret (.ite (.cmp .eq (.ix (.loc 0) (.cst (.int 0))) (.cst (.str "if"))) (.lst (.c (.ix (.loc 0) (.cst (.int 2))) (.c (.ix (.loc 0) (.cst (.int 3))) .n))) (.lst .n)))
 .n)⟩
def d_walked : FDef := ⟨["block", "head"], ["block", "head", "found", "index", "statement", "path", "number", "inner"],
 (.c (.asg 2 (.lst .n))
 (.c (.for_ (.many [3, 4]) (.enum (.loc 0)) (.c (.asg 5 (.bin .add (.loc 1) (.tup (.c (.loc 3) .n))))
 (.c (.ex (.met (.loc 2) "append" (.c (.tup (.c (.loc 5) (.c (.loc 4) .n))) .n)))
 (.c (.for_ (.many [6, 7]) (.enum (.call "blocks_of" (.c (.loc 4) .n))) (.c (.ex (.met (.loc 2) "extend" (.c (.call "walked" (.c (.loc 7) (.c (.bin .add (.loc 5) (.tup (.c (.loc 6) .n))) .n))) .n)))
 .n))
 .n))))
 (.c (.ret (.loc 2))
 .n)))⟩
def d_numbers_in : FDef := ⟨["part"], ["part", "found", "inner"],
 (.c (.ife (.cmp .eq (.ix (.loc 0) (.cst (.int 0))) (.cst (.str "at"))) (.c (.ret (.lst (.c (.ix (.loc 0) (.cst (.int 1))) .n)))
 .n) .n)
 (.c (.asg 1 (.lst .n))
 (.c (.for_ (.one 2) (.seq (.cut (.loc 0) (.cst (.int 1)) (.cst .non))) (.c (.ex (.met (.loc 1) "extend" (.c (.call "numbers_in" (.c (.loc 2) .n)) .n)))
 .n))
 (.c (.ret (.loc 1))
 .n))))⟩
def d_is_sound : FDef := ⟨["path", "statement"], ["path", "statement", "numbers", "number"],
 (.c (.ife (.cmp .gt (.bin .fdiv (.bi .len (.c (.loc 0) .n)) (.cst (.int 2))) (.glo "DEEPEST")) (.c (.ret (.cst (.bl false)))
 .n) .n)
 (.c (.ife (.cmp .eq (.ix (.loc 1) (.cst (.int 0))) (.cst (.str "break"))) (.c (.ret (.cst (.bl true)))
 .n) .n)
 (.c (.asg 2 (.call "numbers_in" (.c (.ite (.cmp .eq (.ix (.loc 1) (.cst (.int 0))) (.cst (.str "set"))) (.ix (.loc 1) (.cst (.int 2))) (.ix (.loc 1) (.cst (.int 1)))) .n)))
 (.c (.ret (.bi .all (.c (.comp [3] (.and_ (.call "is_integer" (.c (.loc 3) .n)) (.chn (.cst (.int 0)) .le (.loc 3) .le (.glo "MOST_WORTH"))) (.one 3) (.seq (.loc 2)) (.cst (.bl true))) .n)))
 .n))))⟩
def d_LoopU_initU : FDef := ⟨["self", "block"], ["self", "block", "path", "statement"],
 (.c (.fld (.loc 0) "own_block" (.loc 1))
 (.c (.fld (.loc 0) "rows" (.call "walked" (.c (.loc 1) (.c (.tup .n) .n))))
 (.c (.ife (.cmp .gt (.bi .len (.c (.att (.loc 0) "rows") .n)) (.glo "MOST_STATEMENTS")) (.c (.rai "InvalidLoop" (.c (.tup .n) .n))
 .n) .n)
 (.c (.for_ (.many [2, 3]) (.seq (.att (.loc 0) "rows")) (.c (.ife (.not_ (.call "is_sound" (.c (.loc 2) (.c (.loc 3) .n)))) (.c (.rai "InvalidLoop" (.c (.loc 2) .n))
 .n) .n)
 .n))
 .n))))⟩
def d_Loop_block : FDef := ⟨["self"], ["self"],
 (.c (.ret (.att (.loc 0) "own_block"))
 .n)⟩
def d_Loop_statement : FDef := ⟨["self", "path"], ["self", "path", "one", "statement", "index"],
 (.c (.for_ (.many [2, 3]) (.seq (.att (.loc 0) "rows")) (.c (.ife (.and_ (.cmp .eq (.loc 2) (.loc 1)) (.bi .all (.c (.comp [4] (.call "is_integer" (.c (.loc 4) .n)) (.one 4) (.seq (.loc 1)) (.cst (.bl true))) .n))) (.c (.ret (.loc 3))
 .n) .n)
 .n))
 (.c (.rai "UnknownPath" (.c (.loc 1) .n))
 .n))⟩
def d_Loop_base : FDef := ⟨["self"], ["self"],
 (.c (.ret (.loc 0))
 .n)⟩
def d_LoopU_lenU : FDef := ⟨["self"], ["self"],
 (.c (.ret (.bi .len (.c (.att (.loc 0) "rows") .n)))
 .n)⟩
def d_LoopU_eqU : FDef := ⟨["self", "other"], ["self", "other"],
 (.c (.ret (.and_ (.isi (.loc 1) "Loop") (.cmp .eq (.att (.loc 0) "own_block") (.att (.loc 1) "own_block"))))
 .n)⟩
def d_value_text : FDef := ⟨["value"], ["value"],
 (.c (.ife (.cmp .eq (.ix (.loc 0) (.cst (.int 0))) (.cst (.str "at"))) (.c (.ret (.bi .str (.c (.ix (.loc 0) (.cst (.int 1))) .n)))
 .n) .n)
 (.c (.ife (.cmp .eq (.ix (.loc 0) (.cst (.int 0))) (.cst (.str "copy"))) (.c (.ret (.fst (.c (.cst (.str "copy(")) (.c (.fmt (.call "value_text" (.c (.ix (.loc 0) (.cst (.int 1))) .n))) (.c (.cst (.str ")")) .n)))))
 .n) .n)
 (.c (.ret (.ite (.cmp .eq (.ix (.loc 0) (.cst (.int 0))) (.cst (.str "none"))) (.cst (.str "None")) (.ix (.loc 0) (.cst (.int 0)))))
 .n)))⟩
def d_test_text : FDef := ⟨["test"], ["test", "ending"],
 (.c (.ife (.cmp .eq (.ix (.loc 0) (.cst (.int 0))) (.cst (.str "not"))) (.c (.ret (.fst (.c (.cst (.str "not ")) (.c (.fmt (.call "test_text" (.c (.ix (.loc 0) (.cst (.int 1))) .n))) .n))))
 .n) .n)
 (.c (.asg 1 (.ite (.cmp .eq (.ix (.loc 0) (.cst (.int 0))) (.cst (.str "in"))) (.cst (.str "]")) (.cst (.str ""))))
 (.c (.ret (.bin .add (.bin .add (.bin .add (.call "value_text" (.c (.ix (.loc 0) (.cst (.int 1))) .n)) (.dix "WORDS" (.ix (.loc 0) (.cst (.int 0))))) (.call "value_text" (.c (.ix (.loc 0) (.cst (.int 2))) .n))) (.loc 1)))
 .n)))⟩
def d_first_line : FDef := ⟨["statement"], ["statement"],
 (.c (.ife (.cmp .eq (.ix (.loc 0) (.cst (.int 0))) (.cst (.str "break"))) (.c (.ret (.cst (.str "break")))
 .n) .n)
 (.c (.ife (.cmp .eq (.ix (.loc 0) (.cst (.int 0))) (.cst (.str "set"))) (.c (.ret (.fst (.c (.fmt (.ix (.loc 0) (.cst (.int 1)))) (.c (.cst (.str " = ")) (.c (.fmt (.call "value_text" (.c (.ix (.loc 0) (.cst (.int 2))) .n))) .n)))))
 .n) .n)
 (.c (.ret (.fst (.c (.cst (.str "if ")) (.c (.fmt (.call "test_text" (.c (.ix (.loc 0) (.cst (.int 1))) .n))) (.c (.cst (.str ":")) .n)))))
 .n)))⟩
def d_block_lines : FDef := ⟨["block", "depth"], ["block", "depth", "blanks", "found", "statement"],
 (.c (.asg 2 (.bin .mul (.cst (.str " ")) (.bin .mul (.glo "WIDE") (.loc 1))))
 (.c (.asg 3 (.lst .n))
 (.c (.for_ (.one 4) (.seq (.loc 0)) (.c (.ex (.met (.loc 3) "append" (.c (.bin .add (.loc 2) (.call "first_line" (.c (.loc 4) .n))) .n)))
 (.c (.ife (.cmp .eq (.ix (.loc 4) (.cst (.int 0))) (.cst (.str "if"))) (.c (.ex (.met (.loc 3) "extend" (.c (.call "block_lines" (.c (.ix (.loc 4) (.cst (.int 2))) (.c (.bin .add (.loc 1) (.cst (.int 1))) .n))) .n)))
 (.c (.ex (.met (.loc 3) "append" (.c (.fst (.c (.fmt (.loc 2)) (.c (.cst (.str "else:")) .n))) .n)))
 (.c (.ex (.met (.loc 3) "extend" (.c (.call "block_lines" (.c (.ix (.loc 4) (.cst (.int 3))) (.c (.bin .add (.loc 1) (.cst (.int 1))) .n))) .n)))
 .n))) .n)
 .n)))
 (.c (.ret (.ite (.cmp .gt (.bi .len (.c (.loc 0) .n)) (.cst (.int 0))) (.loc 3) (.lst (.c (.fst (.c (.fmt (.loc 2)) (.c (.cst (.str "pass")) .n))) .n))))
 .n))))⟩
def d_write : FDef := ⟨["loop"], ["loop", "line"],
 (.c (.ret (.met (.cst (.str "")) "join" (.c (.comp [1] (.fst (.c (.fmt (.loc 1)) (.c (.cst (.str "\n")) .n))) (.one 1) (.seq (.bin .add (.lst (.c (.glo "FIRST_LINE") .n)) (.call "block_lines" (.c (.att (.loc 0) "own_block") (.c (.cst (.int 1)) .n))))) (.cst (.bl true))) .n)))
 .n)⟩
def d_plain_value : FDef := ⟨["text"], ["text"],
 (.c (.ife (.din "VALUES" (.loc 0)) (.c (.ret (.dix "VALUES" (.loc 0)))
 .n) .n)
 (.c (.ret (.ite (.and_ (.cmp .eq (.bi .len (.c (.loc 0) .n)) (.cst (.int 1))) (.cmp .in_ (.loc 0) (.glo "DIGITS"))) (.tup (.c (.cst (.str "at")) (.c (.bi .int (.c (.loc 0) .n)) .n))) (.cst .non)))
 .n))⟩
def d_value_in : FDef := ⟨["text"], ["text", "inner"],
 (.c (.ife (.and_ (.cmp .eq (.cut (.loc 0) (.cst .non) (.cst (.int 5))) (.cst (.str "copy("))) (.cmp .eq (.cut (.loc 0) (.neg (.cst (.int 1))) (.cst .non)) (.cst (.str ")")))) (.c (.asg 1 (.cut (.loc 0) (.cst (.int 5)) (.neg (.cst (.int 1)))))
 (.c (.ret (.ite (.cmp .in_ (.loc 1) (.tup (.c (.cst (.str "item")) (.c (.cst (.str "a")) (.c (.cst (.str "b")) .n))))) (.tup (.c (.cst (.str "copy")) (.c (.dix "VALUES" (.loc 1)) .n))) (.cst .non)))
 .n)) .n)
 (.c (.ret (.call "plain_value" (.c (.loc 0) .n)))
 .n))⟩
def d_test_in : FDef := ⟨["text"], ["text", "inner"],
 (.c (.ife (.cmp .eq (.cut (.loc 0) (.cst .non) (.cst (.int 4))) (.cst (.str "not "))) (.c (.asg 1 (.call "plain_test" (.c (.cut (.loc 0) (.cst (.int 4)) (.cst .non)) .n)))
 (.c (.ret (.ite (.cmp .isn (.loc 1) (.cst .non)) (.cst .non) (.tup (.c (.cst (.str "not")) (.c (.loc 1) .n)))))
 .n)) .n)
 (.c (.ret (.call "plain_test" (.c (.loc 0) .n)))
 .n))⟩
def d_plain_test : FDef := ⟨["text"], ["text", "word", "parts", "one", "other"],
 (.c (.for_ (.one 1) (.gd "WORDS") (.c (.asg 2 (.met (.loc 0) "split" (.c (.dix "WORDS" (.loc 1)) .n)))
 (.c (.ife (.and_ (.cmp .eq (.bi .len (.c (.loc 2) .n)) (.cst (.int 2))) (.or_ (.cmp .ne (.loc 1) (.cst (.str "in"))) (.cmp .eq (.cut (.ix (.loc 2) (.cst (.int 1))) (.neg (.cst (.int 1))) (.cst .non)) (.cst (.str "]"))))) (.c (.par 3 4 (.call "plain_value" (.c (.ix (.loc 2) (.cst (.int 0))) .n)) (.call "plain_value" (.c (.ite (.cmp .eq (.loc 1) (.cst (.str "in"))) (.cut (.ix (.loc 2) (.cst (.int 1))) (.cst .non) (.neg (.cst (.int 1)))) (.ix (.loc 2) (.cst (.int 1)))) .n)))
 (.c (.ret (.ite (.or_ (.cmp .isn (.loc 3) (.cst .non)) (.cmp .isn (.loc 4) (.cst .non))) (.cst .non) (.tup (.c (.loc 1) (.c (.loc 3) (.c (.loc 4) .n))))))
 .n)) .n)
 .n)))
 (.c (.ret (.cst .non))
 .n))⟩
def d_head_in : FDef := ⟨["row"], ["row", "test", "parts"],
 (.c (.ife (.cmp .eq (.loc 0) (.cst (.str "break"))) (.c (.ret (.tup (.c (.cst (.str "break")) .n)))
 .n) .n)
 (.c (.ife (.and_ (.cmp .eq (.cut (.loc 0) (.cst .non) (.cst (.int 3))) (.cst (.str "if "))) (.cmp .eq (.cut (.loc 0) (.neg (.cst (.int 1))) (.cst .non)) (.cst (.str ":")))) (.c (.asg 1 (.call "test_in" (.c (.cut (.loc 0) (.cst (.int 3)) (.neg (.cst (.int 1)))) .n)))
 (.c (.ret (.ite (.cmp .isn (.loc 1) (.cst .non)) (.cst .non) (.tup (.c (.cst (.str "if")) (.c (.loc 1) .n)))))
 .n)) .n)
 (.c (.asg 2 (.met (.loc 0) "split" (.c (.cst (.str " = ")) .n)))
 (.c (.ife (.or_ (.cmp .ne (.bi .len (.c (.loc 2) .n)) (.cst (.int 2))) (.or_ (.cmp .nin (.ix (.loc 2) (.cst (.int 0))) (.glo "NAMES")) (.cmp .isn (.call "value_in" (.c (.ix (.loc 2) (.cst (.int 1))) .n)) (.cst .non)))) (.c (.ret (.cst .non))
 .n) .n)
 (.c (.ret (.tup (.c (.cst (.str "set")) (.c (.ix (.loc 2) (.cst (.int 0))) (.c (.call "value_in" (.c (.ix (.loc 2) (.cst (.int 1))) .n)) .n)))))
 .n)))))⟩
def d_LinesU_initU : FDef := ⟨["self", "rows"], ["self", "rows"],
 (.c (.fld (.loc 0) "rows_left" (.loc 1))
 (.c (.fld (.loc 0) "place" (.cst (.int 0)))
 .n))⟩
def d_Lines_stop : FDef := ⟨["self"], ["self"],
 (.c (.rai "InvalidText" (.c (.bin .add (.att (.loc 0) "place") (.cst (.int 1))) .n))
 .n)⟩
def d_Lines_here : FDef := ⟨["self", "depth"], ["self", "depth", "blanks", "row"],
 (.c (.asg 2 (.bin .mul (.cst (.str " ")) (.bin .mul (.glo "WIDE") (.loc 1))))
 (.c (.ife (.cmp .ge (.att (.loc 0) "place") (.bi .len (.c (.att (.loc 0) "rows_left") .n))) (.c (.ret (.cst (.str "")))
 .n) .n)
 (.c (.asg 3 (.ix (.att (.loc 0) "rows_left") (.att (.loc 0) "place")))
 (.c (.ife (.or_ (.cmp .ne (.cut (.loc 3) (.cst .non) (.bi .len (.c (.loc 2) .n))) (.loc 2)) (.cmp .eq (.cut (.loc 3) (.bi .len (.c (.loc 2) .n)) (.bin .add (.bi .len (.c (.loc 2) .n)) (.cst (.int 1)))) (.cst (.str " ")))) (.c (.ret (.cst (.str "")))
 .n) .n)
 (.c (.ret (.cut (.loc 3) (.bi .len (.c (.loc 2) .n)) (.cst .non)))
 .n)))))⟩
def d_Lines_need : FDef := ⟨["self", "text", "depth"], ["self", "text", "depth"],
 (.c (.ife (.cmp .ne (.met (.loc 0) "here" (.c (.loc 2) .n)) (.loc 1)) (.c (.ex (.met (.loc 0) "stop" .n))
 .n) .n)
 (.c (.fld (.loc 0) "place" (.bin .add (.att (.loc 0) "place") (.cst (.int 1))))
 .n))⟩
def d_read_block : FDef := ⟨["lines", "depth"], ["lines", "depth", "found", "head", "first"],
 (.c (.ife (.cmp .eq (.met (.loc 0) "here" (.c (.loc 1) .n)) (.cst (.str "pass"))) (.c (.ex (.met (.loc 0) "need" (.c (.cst (.str "pass")) (.c (.loc 1) .n))))
 (.c (.ret (.tup .n))
 .n)) .n)
 (.c (.asg 2 (.lst .n))
 (.c (.while_ (.cmp .notn (.call "head_in" (.c (.met (.loc 0) "here" (.c (.loc 1) .n)) .n)) (.cst .non)) (.c (.asg 3 (.call "head_in" (.c (.met (.loc 0) "here" (.c (.loc 1) .n)) .n)))
 (.c (.ex (.met (.loc 0) "need" (.c (.met (.loc 0) "here" (.c (.loc 1) .n)) (.c (.loc 1) .n))))
 (.c (.ife (.cmp .eq (.ix (.loc 3) (.cst (.int 0))) (.cst (.str "if"))) (.c (.asg 4 (.call "read_block" (.c (.loc 0) (.c (.bin .add (.loc 1) (.cst (.int 1))) .n))))
 (.c (.ex (.met (.loc 0) "need" (.c (.cst (.str "else:")) (.c (.loc 1) .n))))
 (.c (.asg 3 (.bin .add (.loc 3) (.tup (.c (.loc 4) (.c (.call "read_block" (.c (.loc 0) (.c (.bin .add (.loc 1) (.cst (.int 1))) .n))) .n)))))
 .n))) .n)
 (.c (.ex (.met (.loc 2) "append" (.c (.loc 3) .n)))
 .n)))))
 (.c (.ife (.cmp .eq (.bi .len (.c (.loc 2) .n)) (.cst (.int 0))) (.c (.ex (.met (.loc 0) "stop" .n))
 .n) .n)
 (.c (.ret (.bi .tuple (.c (.loc 2) .n)))
 .n)))))⟩
def d_read : FDef := ⟨["text"], ["text", "rows", "lines", "block"],
 (.c (.asg 1 (.met (.loc 0) "split" (.c (.cst (.str "\n")) .n)))
 (.c (.asg 2 (.mk "Lines" (.c (.cut (.loc 1) (.cst .non) (.neg (.cst (.int 1)))) .n)))
 (.c (.ex (.met (.loc 2) "need" (.c (.glo "FIRST_LINE") (.c (.cst (.int 0)) .n))))
 (.c (.asg 3 (.call "read_block" (.c (.loc 2) (.c (.cst (.int 1)) .n))))
 (.c (.ife (.or_ (.cmp .lt (.att (.loc 2) "place") (.bi .len (.c (.att (.loc 2) "rows_left") .n))) (.cmp .ne (.ix (.loc 1) (.neg (.cst (.int 1)))) (.cst (.str "")))) (.c (.ex (.met (.loc 2) "stop" .n))
 .n) .n)
 (.c (.ret (.mk "Loop" (.c (.loc 3) .n)))
 .n))))))⟩
def d__law_random : FDef := ⟨["_law_script", "_law_salt"], ["_law_script", "_law_salt", "_law_seed", "_law_cell"],
 (.c (.asg 2 (.loc 1))
 (.c (.for_ (.one 3) (.seq (.loc 0)) (.c (.asg 2 (.bin .mod (.bi .int (.c (.bin .add (.bin .mul (.loc 2) (.cst (.int 31))) (.bi .abs (.c (.loc 3) .n))) .n)) (.cst (.int 2147483647))))
 .n))
 (.c (.ret (.bin .add (.lst (.c (.loc 2) (.c (.cst (.int 0)) .n))) (.comp [3] (.loc 3) (.one 3) (.seq (.loc 0)) (.cmp .ge (.loc 3) (.bin .pow (.cst (.int 10)) (.cst (.int 18)))))))
 .n)))⟩
def d__law_below : FDef := ⟨["_law_d", "_law_size"], ["_law_d", "_law_size", "_law_result"],
 (.c (.ife (.and_ (.cmp .eq (.ix (.loc 0) (.cst (.int 1))) (.cst (.int 0))) (.cmp .gt (.bi .len (.c (.loc 0) .n)) (.cst (.int 2)))) (.c (.sub (.loc 0) (.cst (.int 1)) (.met (.loc 0) "pop" (.c (.cst (.int 2)) .n)))
 .n) .n)
 (.c (.ife (.cmp .gt (.ix (.loc 0) (.cst (.int 1))) (.cst (.int 0))) (.c (.asg 2 (.bin .mod (.bi .int (.c (.ix (.loc 0) (.cst (.int 1))) .n)) (.loc 1)))
 (.c (.sub (.loc 0) (.cst (.int 1)) (.bin .fdiv (.ix (.loc 0) (.cst (.int 1))) (.loc 1)))
 (.c (.ret (.loc 2))
 .n))) .n)
 (.c (.sub (.loc 0) (.cst (.int 0)) (.bin .mod (.bi .int (.c (.bin .add (.bin .mul (.ix (.loc 0) (.cst (.int 0))) (.cst (.int 48271))) (.cst (.int 11))) .n)) (.cst (.int 2147483647))))
 (.c (.ret (.bin .mod (.bi .int (.c (.bin .fdiv (.ix (.loc 0) (.cst (.int 0))) (.cst (.int 64))) .n)) (.loc 1)))
 .n))))⟩
def d__law_pick : FDef := ⟨["_law_d", "_law_items"], ["_law_d", "_law_items"],
 (.c (.ret (.ix (.loc 1) (.call "_law_below" (.c (.loc 0) (.c (.bi .len (.c (.loc 1) .n)) .n)))))
 .n)⟩
def d__law_equal : FDef := ⟨["_law_actual", "_law_expected"], ["_law_actual", "_law_expected", "_law_key", "_law_k"],
 (.c (.ife (.cmp .isn (.loc 1) (.cst .non)) (.c (.ret (.cmp .isn (.loc 0) (.cst .non)))
 .n) .n)
 (.c (.ife (.isi (.loc 1) "bool") (.c (.ret (.and_ (.isi (.loc 0) "bool") (.cmp .eq (.loc 0) (.loc 1))))
 .n) .n)
 (.c (.ife (.isi (.loc 1) "int") (.c (.ret (.and_ (.isi (.loc 0) "int") (.and_ (.not_ (.isi (.loc 0) "bool")) (.cmp .eq (.loc 0) (.loc 1)))))
 .n) .n)
 (.c (.ife (.isi (.loc 1) "str") (.c (.ret (.and_ (.isi (.loc 0) "str") (.cmp .eq (.loc 0) (.loc 1))))
 .n) .n)
 (.c (.ife (.isi (.loc 1) "dict") (.c (.ife (.or_ (.not_ (.isi (.loc 0) "dict")) (.cmp .ne (.bi .list (.c (.loc 0) .n)) (.sor (.bi .list (.c (.loc 1) .n))))) (.c (.ret (.cst (.bl false)))
 .n) .n)
 (.c (.ret (.bi .all (.c (.comp [2] (.call "_law_equal" (.c (.ix (.loc 0) (.loc 2)) (.c (.ix (.loc 1) (.loc 2)) .n))) (.one 2) (.seq (.bi .list (.c (.loc 0) .n))) (.cst (.bl true))) .n)))
 .n)) .n)
 (.c (.ife (.cmp .ne (.isi (.loc 1) "tuple") (.isi (.loc 0) "tuple")) (.c (.ret (.cst (.bl false)))
 .n) .n)
 (.c (.ife (.cmp .ne (.isi (.loc 1) "list") (.isi (.loc 0) "list")) (.c (.ret (.cst (.bl false)))
 .n) .n)
 (.c (.ife (.cmp .ne (.bi .len (.c (.loc 0) .n)) (.bi .len (.c (.loc 1) .n))) (.c (.ret (.cst (.bl false)))
 .n) .n)
 (.c (.ret (.bi .all (.c (.comp [3] (.call "_law_equal" (.c (.ix (.loc 0) (.loc 3)) (.c (.ix (.loc 1) (.loc 3)) .n))) (.one 3) (.r1 (.bi .len (.c (.loc 1) .n))) (.cst (.bl true))) .n)))
 .n)))))))))⟩
def d__law_val : FDef := ⟨["_law_d"], ["_law_d", "_law_chances"],
 (.c (.asg 1 (.lst (.c (.tup (.c (.cst (.str "item")) .n)) (.c (.tup (.c (.cst (.str "item")) .n)) (.c (.tup (.c (.cst (.str "a")) .n)) (.c (.tup (.c (.cst (.str "a")) .n)) (.c (.tup (.c (.cst (.str "b")) .n)) (.c (.tup (.c (.cst (.str "none")) .n)) (.c (.tup (.c (.cst (.str "at")) (.c (.cst (.int 1)) .n))) .n)))))))))
 (.c (.ret (.call "_law_pick" (.c (.loc 0) (.c (.bin .add (.loc 1) (.lst (.c (.tup (.c (.cst (.str "at")) (.c (.call "_law_below" (.c (.loc 0) (.c (.cst (.int 4)) .n))) .n))) .n))) .n))))
 .n))⟩
def d__law_test : FDef := ⟨["_law_d"], ["_law_d", "_law_word_here", "_law_first", "_law_test_here"],
 (.c (.asg 1 (.call "_law_pick" (.c (.loc 0) (.c (.lst (.c (.cst (.str "same")) (.c (.cst (.str "like")) (.c (.cst (.str "in")) (.c (.cst (.str "less")) (.c (.cst (.str "in")) (.c (.cst (.str "like")) .n))))))) .n))))
 (.c (.asg 2 (.call "_law_val" (.c (.loc 0) .n)))
 (.c (.asg 3 (.tup (.c (.loc 1) (.c (.loc 2) (.c (.call "_law_val" (.c (.loc 0) .n)) .n)))))
 (.c (.ife (.cmp .eq (.call "_law_below" (.c (.loc 0) (.c (.cst (.int 4)) .n))) (.cst (.int 0))) (.c (.ret (.tup (.c (.cst (.str "not")) (.c (.loc 3) .n))))
 .n) .n)
 (.c (.ret (.loc 3))
 .n)))))⟩
def d__law_statement : FDef := ⟨["_law_d", "_law_deep"], ["_law_d", "_law_deep", "_law_chance", "_law_value", "_law_test_here", "_law_first"],
 (.c (.asg 2 (.call "_law_below" (.c (.loc 0) (.c (.cst (.int 10)) .n))))
 (.c (.ife (.cmp .eq (.loc 2) (.cst (.int 0))) (.c (.ret (.tup (.c (.cst (.str "break")) .n)))
 .n) .n)
 (.c (.ife (.or_ (.cmp .lt (.loc 2) (.cst (.int 5))) (.cmp .eq (.loc 1) (.cst (.int 2)))) (.c (.asg 3 (.call "_law_val" (.c (.loc 0) .n)))
 (.c (.ife (.cmp .eq (.call "_law_below" (.c (.loc 0) (.c (.cst (.int 5)) .n))) (.cst (.int 0))) (.c (.asg 3 (.tup (.c (.cst (.str "copy")) (.c (.call "_law_pick" (.c (.loc 0) (.c (.lst (.c (.tup (.c (.cst (.str "item")) .n)) (.c (.tup (.c (.cst (.str "a")) .n)) (.c (.tup (.c (.cst (.str "b")) .n)) .n)))) .n))) .n))))
 .n) .n)
 (.c (.ret (.tup (.c (.cst (.str "set")) (.c (.call "_law_pick" (.c (.loc 0) (.c (.lst (.c (.cst (.str "a")) (.c (.cst (.str "a")) (.c (.cst (.str "b")) .n)))) .n))) (.c (.loc 3) .n)))))
 .n))) .n)
 (.c (.asg 4 (.call "_law_test" (.c (.loc 0) .n)))
 (.c (.asg 5 (.call "_law_block" (.c (.loc 0) (.c (.bin .add (.loc 1) (.cst (.int 1))) (.c (.cst (.int 2)) .n)))))
 (.c (.ret (.tup (.c (.cst (.str "if")) (.c (.loc 4) (.c (.loc 5) (.c (.call "_law_block" (.c (.loc 0) (.c (.bin .add (.loc 1) (.cst (.int 1))) (.c (.cst (.int 2)) .n)))) .n))))))
 .n))))))⟩
def d__law_block : FDef := ⟨["_law_d", "_law_deep", "_law_cap"], ["_law_d", "_law_deep", "_law_cap", "_law_k"],
 (.c (.ret (.bi .tuple (.c (.comp [3] (.call "_law_statement" (.c (.loc 0) (.c (.loc 1) .n))) (.one 3) (.r1 (.call "_law_below" (.c (.loc 0) (.c (.bin .add (.loc 2) (.cst (.int 1))) .n)))) (.cst (.bl true))) .n)))
 .n)⟩
def d__law_walk : FDef := ⟨["_law_block_here", "_law_head_here"], ["_law_block_here", "_law_head_here", "_law_found", "_law_k"],
 (.c (.asg 2 (.lst .n))
 (.c (.for_ (.one 3) (.r1 (.bi .len (.c (.loc 0) .n))) (.c (.ex (.met (.loc 2) "append" (.c (.tup (.c (.bin .add (.loc 1) (.tup (.c (.loc 3) .n))) (.c (.ix (.loc 0) (.loc 3)) .n))) .n)))
 (.c (.ife (.cmp .eq (.ix (.ix (.loc 0) (.loc 3)) (.cst (.int 0))) (.cst (.str "if"))) (.c (.asg 2 (.bin .add (.bin .add (.loc 2) (.call "_law_walk" (.c (.ix (.ix (.loc 0) (.loc 3)) (.cst (.int 2))) (.c (.bin .add (.loc 1) (.tup (.c (.loc 3) (.c (.cst (.int 0)) .n)))) .n)))) (.call "_law_walk" (.c (.ix (.ix (.loc 0) (.loc 3)) (.cst (.int 3))) (.c (.bin .add (.loc 1) (.tup (.c (.loc 3) (.c (.cst (.int 1)) .n)))) .n)))))
 .n) .n)
 .n)))
 (.c (.ret (.loc 2))
 .n)))⟩
def d__law_known : FDef := ⟨["_law_d"], ["_law_d", "_law_take", "_law_keep", "_law_word_here", "_law_rise", "_law_fall", "_law_empty", "_law_greatest", "_law_first", "_law_twice", "_law_other", "_law_last"],
 (.c (.asg 1 (.tup (.c (.tup (.c (.cst (.str "set")) (.c (.cst (.str "a")) (.c (.tup (.c (.cst (.str "item")) .n)) .n)))) .n)))
 (.c (.asg 2 (.tup (.c (.tup (.c (.cst (.str "set")) (.c (.cst (.str "b")) (.c (.tup (.c (.cst (.str "item")) .n)) .n)))) .n)))
 (.c (.asg 3 (.call "_law_pick" (.c (.loc 0) (.c (.lst (.c (.cst (.str "in")) (.c (.cst (.str "like")) (.c (.cst (.str "same")) .n)))) .n))))
 (.c (.asg 4 (.tup (.c (.cst (.str "less")) (.c (.tup (.c (.cst (.str "a")) .n)) (.c (.tup (.c (.cst (.str "item")) .n)) .n)))))
 (.c (.asg 5 (.tup (.c (.cst (.str "less")) (.c (.tup (.c (.cst (.str "item")) .n)) (.c (.tup (.c (.cst (.str "a")) .n)) .n)))))
 (.c (.asg 6 (.tup (.c (.loc 3) (.c (.tup (.c (.cst (.str "a")) .n)) (.c (.tup (.c (.cst (.str "none")) .n)) .n)))))
 (.c (.asg 7 (.tup (.c (.tup (.c (.cst (.str "if")) (.c (.loc 6) (.c (.loc 1) (.c (.tup (.c (.tup (.c (.cst (.str "if")) (.c (.call "_law_pick" (.c (.loc 0) (.c (.lst (.c (.loc 4) (.c (.loc 5) .n))) .n))) (.c (.loc 1) (.c (.tup .n) .n))))) .n)) .n))))) .n)))
 (.c (.asg 8 (.tup (.c (.tup (.c (.cst (.str "if")) (.c (.tup (.c (.loc 3) (.c (.tup (.c (.cst (.str "item")) .n)) (.c (.tup (.c (.cst (.str "at")) (.c (.cst (.int 1)) .n))) .n)))) (.c (.bin .add (.loc 1) (.tup (.c (.tup (.c (.cst (.str "break")) .n)) .n))) (.c (.tup .n) .n))))) .n)))
 (.c (.asg 9 (.tup (.c (.tup (.c (.cst (.str "if")) (.c (.tup (.c (.loc 3) (.c (.tup (.c (.cst (.str "item")) .n)) (.c (.tup (.c (.cst (.str "a")) .n)) .n)))) (.c (.loc 2) (.c (.loc 1) .n))))) .n)))
 (.c (.asg 10 (.tup (.c (.tup (.c (.cst (.str "if")) (.c (.tup (.c (.cst (.str "not")) (.c (.tup (.c (.loc 3) (.c (.tup (.c (.cst (.str "item")) .n)) (.c (.tup (.c (.cst (.str "a")) .n)) .n)))) .n))) (.c (.bin .add (.tup (.c (.tup (.c (.cst (.str "set")) (.c (.cst (.str "b")) (.c (.tup (.c (.cst (.str "a")) .n)) .n)))) .n)) (.loc 1)) (.c (.tup .n) .n))))) .n)))
 (.c (.asg 11 (.tup (.c (.tup (.c (.cst (.str "if")) (.c (.tup (.c (.loc 3) (.c (.tup (.c (.cst (.str "item")) .n)) (.c (.tup (.c (.cst (.str "item")) .n)) .n)))) (.c (.loc 1) (.c (.loc 2) .n))))) .n)))
 (.c (.ret (.call "_law_pick" (.c (.loc 0) (.c (.lst (.c (.loc 7) (.c (.loc 8) (.c (.loc 9) (.c (.loc 10) (.c (.loc 11) .n)))))) .n))))
 .n))))))))))))⟩
def d__law_small : FDef := ⟨["_law_d", "_law_cap"], ["_law_d", "_law_cap", "_law_block_here"],
 (.c (.ife (.cmp .eq (.call "_law_below" (.c (.loc 0) (.c (.cst (.int 3)) .n))) (.cst (.int 0))) (.c (.ret (.call "_law_known" (.c (.loc 0) .n)))
 .n) .n)
 (.c (.asg 2 (.call "_law_block" (.c (.loc 0) (.c (.cst (.int 0)) (.c (.cst (.int 3)) .n)))))
 (.c (.while_ (.cmp .gt (.bi .len (.c (.call "_law_walk" (.c (.loc 2) (.c (.tup .n) .n))) .n)) (.loc 1)) (.c (.asg 2 (.cut (.loc 2) (.cst .non) (.neg (.cst (.int 1)))))
 .n))
 (.c (.ret (.loc 2))
 .n))))⟩
def d__law_word : FDef := ⟨["_law_value"], ["_law_value"],
 (.c (.ife (.cmp .eq (.ix (.loc 0) (.cst (.int 0))) (.cst (.str "at"))) (.c (.ret (.bi .str (.c (.ix (.loc 0) (.cst (.int 1))) .n)))
 .n) .n)
 (.c (.ife (.cmp .eq (.ix (.loc 0) (.cst (.int 0))) (.cst (.str "none"))) (.c (.ret (.cst (.str "None")))
 .n) .n)
 (.c (.ife (.cmp .eq (.ix (.loc 0) (.cst (.int 0))) (.cst (.str "copy"))) (.c (.ret (.bin .add (.bin .add (.cst (.str "copy(")) (.call "_law_word" (.c (.ix (.loc 0) (.cst (.int 1))) .n))) (.cst (.str ")"))))
 .n) .n)
 (.c (.ret (.ix (.loc 0) (.cst (.int 0))))
 .n))))⟩
def d__law_asked : FDef := ⟨["_law_test_here"], ["_law_test_here", "_law_first", "_law_second"],
 (.c (.ife (.cmp .eq (.ix (.loc 0) (.cst (.int 0))) (.cst (.str "not"))) (.c (.ret (.bin .add (.cst (.str "not ")) (.call "_law_asked" (.c (.ix (.loc 0) (.cst (.int 1))) .n))))
 .n) .n)
 (.c (.asg 1 (.call "_law_word" (.c (.ix (.loc 0) (.cst (.int 1))) .n)))
 (.c (.asg 2 (.call "_law_word" (.c (.ix (.loc 0) (.cst (.int 2))) .n)))
 (.c (.ife (.cmp .eq (.ix (.loc 0) (.cst (.int 0))) (.cst (.str "same"))) (.c (.ret (.bin .add (.bin .add (.loc 1) (.cst (.str " is "))) (.loc 2)))
 .n) .n)
 (.c (.ife (.cmp .eq (.ix (.loc 0) (.cst (.int 0))) (.cst (.str "like"))) (.c (.ret (.bin .add (.bin .add (.loc 1) (.cst (.str " == "))) (.loc 2)))
 .n) .n)
 (.c (.ife (.cmp .eq (.ix (.loc 0) (.cst (.int 0))) (.cst (.str "less"))) (.c (.ret (.bin .add (.bin .add (.loc 1) (.cst (.str " < "))) (.loc 2)))
 .n) .n)
 (.c (.ret (.bin .add (.bin .add (.bin .add (.loc 1) (.cst (.str " in ["))) (.loc 2)) (.cst (.str "]"))))
 .n)))))))⟩
def d__law_head : FDef := ⟨["_law_statement_here"], ["_law_statement_here"],
 (.c (.ife (.cmp .eq (.ix (.loc 0) (.cst (.int 0))) (.cst (.str "break"))) (.c (.ret (.cst (.str "break")))
 .n) .n)
 (.c (.ife (.cmp .eq (.ix (.loc 0) (.cst (.int 0))) (.cst (.str "set"))) (.c (.ret (.bin .add (.bin .add (.ix (.loc 0) (.cst (.int 1))) (.cst (.str " = "))) (.call "_law_word" (.c (.ix (.loc 0) (.cst (.int 2))) .n))))
 .n) .n)
 (.c (.ret (.bin .add (.bin .add (.cst (.str "if ")) (.call "_law_asked" (.c (.ix (.loc 0) (.cst (.int 1))) .n))) (.cst (.str ":"))))
 .n)))⟩
def d__law_rows : FDef := ⟨["_law_block_here", "_law_deep"], ["_law_block_here", "_law_deep", "_law_found", "_law_statement_here"],
 (.c (.asg 2 (.lst .n))
 (.c (.for_ (.one 3) (.seq (.loc 0)) (.c (.ex (.met (.loc 2) "append" (.c (.tup (.c (.loc 1) (.c (.call "_law_head" (.c (.loc 3) .n)) .n))) .n)))
 (.c (.ife (.cmp .eq (.ix (.loc 3) (.cst (.int 0))) (.cst (.str "if"))) (.c (.asg 2 (.bin .add (.loc 2) (.call "_law_rows" (.c (.ix (.loc 3) (.cst (.int 2))) (.c (.bin .add (.loc 1) (.cst (.int 1))) .n)))))
 (.c (.ex (.met (.loc 2) "append" (.c (.tup (.c (.loc 1) (.c (.cst (.str "else:")) .n))) .n)))
 (.c (.asg 2 (.bin .add (.loc 2) (.call "_law_rows" (.c (.ix (.loc 3) (.cst (.int 3))) (.c (.bin .add (.loc 1) (.cst (.int 1))) .n)))))
 .n))) .n)
 .n)))
 (.c (.ife (.cmp .eq (.bi .len (.c (.loc 0) .n)) (.cst (.int 0))) (.c (.ex (.met (.loc 2) "append" (.c (.tup (.c (.loc 1) (.c (.cst (.str "pass")) .n))) .n)))
 .n) .n)
 (.c (.ret (.loc 2))
 .n))))⟩
def d__law_text : FDef := ⟨["_law_rows_here"], ["_law_rows_here", "_law_deep", "_law_line"],
 (.c (.ret (.met (.cst (.str "")) "join" (.c (.comp [1, 2] (.bin .add (.bin .add (.bin .mul (.cst (.str " ")) (.bin .mul (.cst (.int 4)) (.loc 1))) (.loc 2)) (.cst (.str "\n"))) (.many [1, 2]) (.seq (.loc 0)) (.cst (.bl true))) .n)))
 .n)⟩
def d__law_whole : FDef := ⟨["_law_block_here"], ["_law_block_here"],
 (.c (.ret (.bin .add (.lst (.c (.tup (.c (.cst (.int 0)) (.c (.cst (.str "for item in items:")) .n))) .n)) (.call "_law_rows" (.c (.loc 0) (.c (.cst (.int 1)) .n)))))
 .n)⟩
def d_law : FDef := ⟨["_law_script"], ["_law_script", "_law_d", "_law_lap", "_law_block_here", "_law_loop", "_law_text_here"],
 (.c (.asg 1 (.call "_law_random" (.c (.loc 0) (.c (.cst (.int 15)) .n))))
 (.c (.for_ (.one 2) (.r1 (.cst (.int 4))) (.c (.asg 3 (.call "_law_pick" (.c (.loc 1) (.c (.lst (.c (.call "_law_small" (.c (.loc 1) (.c (.cst (.int 8)) .n))) (.c (.call "_law_small" (.c (.loc 1) (.c (.cst (.int 8)) .n))) (.c (.tup .n) .n)))) .n))))
 (.c (.asg 4 (.mk "Loop" (.c (.loc 3) .n)))
 (.c (.asg 5 (.call "_law_text" (.c (.call "_law_whole" (.c (.loc 3) .n)) .n)))
 (.c (.ife (.or_ (.not_ (.call "_law_equal" (.c (.call "write" (.c (.loc 4) .n)) (.c (.loc 5) .n)))) (.or_ (.cmp .ne (.call "read" (.c (.loc 5) .n)) (.loc 4)) (.not_ (.call "_law_equal" (.c (.att (.call "read" (.c (.loc 5) .n)) "block") (.c (.loc 3) .n)))))) (.c (.ret (.cst (.bl false)))
 .n) .n)
 (.c (.ife (.not_ (.call "_law_equal" (.c (.call "write" (.c (.call "read" (.c (.loc 5) .n)) .n)) (.c (.loc 5) .n)))) (.c (.ret (.cst (.bl false)))
 .n) .n)
 .n))))))
 (.c (.ret (.cst (.bl true)))
 .n)))⟩
end Uk
namespace Uk
open PySem PySem.Spec PyProof.Rows L2
def top (i : Nat) : Stmt := PySem.Challenge.pw_unlikeself_k15_loops_written_and_read_ba.main.body.getD i (.Pass ⟨0, 0, 0, 0⟩)
def sub (s : Stmt) (j : Nat) : Stmt := match s with
  | .ClassDef (body := b) .. => b.getD j (.Pass ⟨0, 0, 0, 0⟩)
  | _ => .Pass ⟨0, 0, 0, 0⟩
abbrev e_is_integer : DE := ⟨"", "is_integer", top 8⟩
abbrev e_blocks_of : DE := ⟨"", "blocks_of", top 12⟩
abbrev e_walked : DE := ⟨"", "walked", top 13⟩
abbrev e_numbers_in : DE := ⟨"", "numbers_in", top 14⟩
abbrev e_is_sound : DE := ⟨"", "is_sound", top 15⟩
abbrev e_LoopU_initU : DE := ⟨"Loop", "__init__", sub (top 16) 0⟩
abbrev e_Loop_block : DE := ⟨"Loop", "block", sub (top 16) 1⟩
abbrev e_Loop_statement : DE := ⟨"Loop", "statement", sub (top 16) 3⟩
abbrev e_Loop_base : DE := ⟨"Loop", "base", sub (top 16) 4⟩
abbrev e_LoopU_lenU : DE := ⟨"Loop", "__len__", sub (top 16) 7⟩
abbrev e_LoopU_eqU : DE := ⟨"Loop", "__eq__", sub (top 16) 8⟩
abbrev e_value_text : DE := ⟨"", "value_text", top 24⟩
abbrev e_test_text : DE := ⟨"", "test_text", top 25⟩
abbrev e_first_line : DE := ⟨"", "first_line", top 26⟩
abbrev e_block_lines : DE := ⟨"", "block_lines", top 27⟩
abbrev e_write : DE := ⟨"", "write", top 28⟩
abbrev e_plain_value : DE := ⟨"", "plain_value", top 29⟩
abbrev e_value_in : DE := ⟨"", "value_in", top 30⟩
abbrev e_test_in : DE := ⟨"", "test_in", top 31⟩
abbrev e_plain_test : DE := ⟨"", "plain_test", top 32⟩
abbrev e_head_in : DE := ⟨"", "head_in", top 33⟩
abbrev e_LinesU_initU : DE := ⟨"Lines", "__init__", sub (top 34) 0⟩
abbrev e_Lines_stop : DE := ⟨"Lines", "stop", sub (top 34) 1⟩
abbrev e_Lines_here : DE := ⟨"Lines", "here", sub (top 34) 2⟩
abbrev e_Lines_need : DE := ⟨"Lines", "need", sub (top 34) 3⟩
abbrev e_read_block : DE := ⟨"", "read_block", top 35⟩
abbrev e_read : DE := ⟨"", "read", top 36⟩
abbrev e__law_random : DE := ⟨"", "_law_random", top 38⟩
abbrev e__law_below : DE := ⟨"", "_law_below", top 39⟩
abbrev e__law_pick : DE := ⟨"", "_law_pick", top 40⟩
abbrev e__law_equal : DE := ⟨"", "_law_equal", top 41⟩
abbrev e__law_val : DE := ⟨"", "_law_val", top 42⟩
abbrev e__law_test : DE := ⟨"", "_law_test", top 43⟩
abbrev e__law_statement : DE := ⟨"", "_law_statement", top 44⟩
abbrev e__law_block : DE := ⟨"", "_law_block", top 45⟩
abbrev e__law_walk : DE := ⟨"", "_law_walk", top 46⟩
abbrev e__law_known : DE := ⟨"", "_law_known", top 47⟩
abbrev e__law_small : DE := ⟨"", "_law_small", top 48⟩
abbrev e__law_word : DE := ⟨"", "_law_word", top 49⟩
abbrev e__law_asked : DE := ⟨"", "_law_asked", top 50⟩
abbrev e__law_head : DE := ⟨"", "_law_head", top 51⟩
abbrev e__law_rows : DE := ⟨"", "_law_rows", top 52⟩
abbrev e__law_text : DE := ⟨"", "_law_text", top 53⟩
abbrev e__law_whole : DE := ⟨"", "_law_whole", top 54⟩
abbrev e_law : DE := ⟨"", "law", top 55⟩
abbrev x_InvalidLoop : DE := ⟨"InvalidLoop", "__init__", sub (top 3) 0⟩
abbrev x_UnknownPath : DE := ⟨"UnknownPath", "__init__", sub (top 4) 0⟩
abbrev x_InvalidText : DE := ⟨"InvalidText", "__init__", sub (top 5) 0⟩
def pd : PgD where
  ds := [(e_is_integer, d_is_integer), (e_blocks_of, d_blocks_of), (e_walked, d_walked), (e_numbers_in, d_numbers_in), (e_is_sound, d_is_sound), (e_LoopU_initU, d_LoopU_initU), (e_Loop_block, d_Loop_block), (e_Loop_statement, d_Loop_statement), (e_Loop_base, d_Loop_base), (e_LoopU_lenU, d_LoopU_lenU), (e_LoopU_eqU, d_LoopU_eqU), (e_value_text, d_value_text), (e_test_text, d_test_text), (e_first_line, d_first_line), (e_block_lines, d_block_lines), (e_write, d_write), (e_plain_value, d_plain_value), (e_value_in, d_value_in), (e_test_in, d_test_in), (e_plain_test, d_plain_test), (e_head_in, d_head_in), (e_LinesU_initU, d_LinesU_initU), (e_Lines_stop, d_Lines_stop), (e_Lines_here, d_Lines_here), (e_Lines_need, d_Lines_need), (e_read_block, d_read_block), (e_read, d_read), (e__law_random, d__law_random), (e__law_below, d__law_below), (e__law_pick, d__law_pick), (e__law_equal, d__law_equal), (e__law_val, d__law_val), (e__law_test, d__law_test), (e__law_statement, d__law_statement), (e__law_block, d__law_block), (e__law_walk, d__law_walk), (e__law_known, d__law_known), (e__law_small, d__law_small), (e__law_word, d__law_word), (e__law_asked, d__law_asked), (e__law_head, d__law_head), (e__law_rows, d__law_rows), (e__law_text, d__law_text), (e__law_whole, d__law_whole), (e_law, d_law)]
  xs := [x_InvalidLoop, x_UnknownPath, x_InvalidText]
  cons := [("MOST_WORTH", (.int 3)), ("MOST_STATEMENTS", (.int 8)), ("DEEPEST", (.int 2)), ("WIDE", (.int 4)), ("FIRST_LINE", (.str "for item in items:")), ("NAMES", (.tup [(.str "a"), (.str "b")])), ("DIGITS", (.str "0123456789"))]
  exns := [("InvalidLoop", some "path"), ("UnknownPath", some "path"), ("InvalidText", some "line")]
  cls := ["Loop", "Lines"]
  prop := [("Loop", "block")]
  fld := [("Loop", "own_block"), ("Loop", "rows"), ("Lines", "rows_left"), ("Lines", "place")]
  base := fun _ _ => false
  dcs := [("VALUES", [("item", (.tup [(.str "item")])), ("a", (.tup [(.str "a")])), ("b", (.tup [(.str "b")])), ("None", (.tup [(.str "none")]))]), ("WORDS", [("same", (.str " is ")), ("like", (.str " == ")), ("in", (.str " in [")), ("less", (.str " < "))])]
theorem good : Good pd where
  ck := by kernel_rfl
  bi := ⟨fun _ _ _ _ _ _ us hl => match us, hl with
    | [_], _ => rfl,
    fun _ _ _ _ _ _ us hl => match us, hl with
    | [_], _ => rfl,
    fun _ _ _ _ _ _ us hl => match us, hl with
    | [_, _], _ => rfl,
    fun _ _ _ _ _ _ us hl => match us, hl with
    | [_], _ => rfl,
    fun _ _ _ _ _ _ us hl => match us, hl with
    | [_, _], _ => rfl,
    fun _ _ _ _ _ _ us hl => match us, hl with
    | [_, _], _ => rfl,
    fun _ _ _ _ _ _ us hl => match us, hl with
    | [_], _ => rfl,
    fun _ _ _ _ _ _ us hl => match us, hl with
    | [_, _], _ => rfl,
    fun _ _ _ _ _ _ us hl => match us, hl with
    | [_], _ => rfl,
    fun _ _ _ _ _ _ us hl => match us, hl with
    | [_], _ => rfl,
    fun _ _ _ _ _ _ us hl => match us, hl with
    | [_, _], _ => rfl,
    fun _ _ _ _ _ _ us hl => match us, hl with
    | [_], _ => rfl,
    fun _ _ _ _ _ _ us hl => match us, hl with
    | [_], _ => rfl,
    fun _ _ _ _ _ _ us hl => match us, hl with
    | [_], _ => rfl,
    fun _ _ _ _ _ _ us hl => match us, hl with
    | [_, _], _ => rfl,
    fun _ _ _ _ _ _ us hl => match us, hl with
    | [_], _ => rfl,
    fun _ _ _ _ _ _ us hl => match us, hl with
    | [_], _ => rfl,
    fun _ _ _ _ _ _ us hl => match us, hl with
    | [_], _ => rfl,
    fun _ _ _ _ _ _ us hl => match us, hl with
    | [_], _ => rfl,
    fun _ _ _ _ _ _ us hl => match us, hl with
    | [_], _ => rfl,
    fun _ _ _ _ _ _ us hl => match us, hl with
    | [_], _ => rfl,
    fun _ _ _ _ _ _ us hl => match us, hl with
    | [_, _], _ => rfl,
    fun _ _ _ _ _ _ us hl => match us, hl with
    | [_], _ => rfl,
    fun _ _ _ _ _ _ us hl => match us, hl with
    | [_, _], _ => rfl,
    fun _ _ _ _ _ _ us hl => match us, hl with
    | [_, _, _], _ => rfl,
    fun _ _ _ _ _ _ us hl => match us, hl with
    | [_, _], _ => rfl,
    fun _ _ _ _ _ _ us hl => match us, hl with
    | [_], _ => rfl,
    fun _ _ _ _ _ _ us hl => match us, hl with
    | [_, _], _ => rfl,
    fun _ _ _ _ _ _ us hl => match us, hl with
    | [_, _], _ => rfl,
    fun _ _ _ _ _ _ us hl => match us, hl with
    | [_, _], _ => rfl,
    fun _ _ _ _ _ _ us hl => match us, hl with
    | [_, _], _ => rfl,
    fun _ _ _ _ _ _ us hl => match us, hl with
    | [_], _ => rfl,
    fun _ _ _ _ _ _ us hl => match us, hl with
    | [_], _ => rfl,
    fun _ _ _ _ _ _ us hl => match us, hl with
    | [_, _], _ => rfl,
    fun _ _ _ _ _ _ us hl => match us, hl with
    | [_, _, _], _ => rfl,
    fun _ _ _ _ _ _ us hl => match us, hl with
    | [_, _], _ => rfl,
    fun _ _ _ _ _ _ us hl => match us, hl with
    | [_], _ => rfl,
    fun _ _ _ _ _ _ us hl => match us, hl with
    | [_, _], _ => rfl,
    fun _ _ _ _ _ _ us hl => match us, hl with
    | [_], _ => rfl,
    fun _ _ _ _ _ _ us hl => match us, hl with
    | [_], _ => rfl,
    fun _ _ _ _ _ _ us hl => match us, hl with
    | [_], _ => rfl,
    fun _ _ _ _ _ _ us hl => match us, hl with
    | [_, _], _ => rfl,
    fun _ _ _ _ _ _ us hl => match us, hl with
    | [_], _ => rfl,
    fun _ _ _ _ _ _ us hl => match us, hl with
    | [_], _ => rfl,
    fun _ _ _ _ _ _ us hl => match us, hl with
    | [_], _ => rfl, trivial⟩
  ex := ⟨⟨x_InvalidLoop, by simp [pd], rfl, rfl, by decide, ⟨_, _, _, _, _, _, rfl, rfl, rfl⟩, fldN_path⟩, ⟨x_UnknownPath, by simp [pd], rfl, rfl, by decide, ⟨_, _, _, _, _, _, rfl, rfl, rfl⟩, fldN_path⟩, ⟨x_InvalidText, by simp [pd], rfl, rfl, by decide, ⟨_, _, _, _, _, _, rfl, rfl, rfl⟩, fldN_line⟩, trivial⟩
  nk := by decide
  px := by decide
end Uk
end
section
set_option Elab.async false
set_option linter.all false
set_option maxRecDepth 100000
set_option maxHeartbeats 0
namespace Uk
open PySem PySem.Spec PyProof.Rows L2
def nm0 : List PySem.Str := ["_wall", "UnlikeError", "InvalidLoop", "UnknownPath", "InvalidText", "MOST_WORTH", "is_integer", "MOST_STATEMENTS", "DEEPEST", "blocks_of", "walked", "numbers_in", "is_sound", "Loop", "WIDE", "FIRST_LINE", "NAMES", "VALUES", "WORDS", "DIGITS", "value_text", "test_text", "first_line", "block_lines", "write", "plain_value", "value_in", "test_in", "plain_test", "head_in"]
def nm1 : List PySem.Str := ["Lines", "read_block", "read", "_law_random", "_law_below", "_law_pick", "_law_equal", "_law_val", "_law_test", "_law_statement", "_law_block", "_law_walk", "_law_known", "_law_small", "_law_word", "_law_asked", "_law_head", "_law_rows", "_law_text", "_law_whole"]
def nms : List PySem.Str := nm0 ++ nm1
abbrev Rw : PySem.W.OpenRow := PySem.W.OpenLaw.row PySem.Challenge.rw_unlikeself_k15_loops_written_and_read_ba
def adrs : List Addr := [3, 6, 4, 21, 31, 51, 70, 89, 98, 105, 112, 119, 124, 196, 201, 202, 207, 214, 221, 228, 235, 240, 247, 254, 261, 268, 275, 313, 324, 331, 336, 343, 350, 355, 362, 369, 376, 381, 388, 395, 402, 409, 416, 423, 430, 435, 442, 449, 0, 20, 30, 50, 69, 88, 97, 104, 111, 118, 123, 195, 203, 204, 205, 206, 213, 220, 227, 234, 239, 246, 253, 260, 267, 274, 312, 323, 330, 335, 342, 349, 354, 361, 368, 375, 380, 387, 394, 401, 408, 415, 422, 429, 434, 441, 448, 15, 17, 18, 19, 29, 32, 48, 49, 67, 68, 86, 87, 92, 94, 95, 96, 99, 101, 102, 103, 106, 108, 109, 110, 113, 115, 116, 117, 120, 122, 138, 146, 153, 158, 165, 172, 179, 186, 193, 194, 197, 198, 208, 210, 211, 212, 215, 217, 218, 219, 222, 224, 225, 226, 229, 231, 232, 233, 236, 238, 241, 243, 244, 245, 248, 250, 251, 252, 255, 257, 258, 259, 262, 264, 265, 266, 269, 271, 272, 273, 289, 296, 303, 310, 311, 314, 315, 318, 320, 321, 322, 325, 327, 328, 329, 332, 334, 337, 339, 340, 341, 344, 346, 347, 348, 351, 353, 356, 358, 359, 360, 363, 365, 366, 367, 370, 372, 373, 374, 377, 379, 382, 384, 385, 386, 389, 391, 392, 393, 396, 398, 399, 400, 403, 405, 406, 407, 410, 412, 413, 414, 417, 419, 420, 421, 424, 426, 427, 428, 431, 433, 436, 438, 439, 440, 443, 445, 446, 447, 47, 66, 85, 137, 145, 152, 157, 164, 171, 178, 185, 192, 288, 295, 302, 309, 42, 44, 45, 46, 61, 63, 64, 65, 80, 82, 83, 84, 132, 134, 135, 136, 144, 147, 149, 150, 151, 154, 156, 159, 161, 162, 163, 166, 168, 169, 170, 173, 175, 176, 177, 180, 182, 183, 184, 187, 189, 190, 191, 283, 285, 286, 287, 290, 292, 293, 294, 297, 299, 300, 301, 304, 306, 307, 308, 139, 141, 142, 143]
def ob (s : PySem.W.SharedT) : AlU := obsUG adrs pd (HandSHeadRun.getT s)
theorem ob_eq (s : PySem.W.SharedT) : ob s = (hookU adrs pd).obs s.abs := obsUG_eq (HandSHeadRun.getT_eq s)
theorem run_false (w : World) : HandSHeadRun.RunEq Rw (PySem.W.view Rw.prog [55]) (hookU adrs pd) ob 6000 nms (w.withFollow "special-get-raises" false) := by
  intro os
  kernel_rfl
theorem run_true (w : World) : HandSHeadRun.RunEq Rw (PySem.W.view Rw.prog [55]) (hookU adrs pd) ob 6000 nms (w.withFollow "special-get-raises" true) := by
  intro os
  kernel_rfl
theorem run (w : World) : HandSHeadRun.RunEq Rw (PySem.W.view Rw.prog [55]) (hookU adrs pd) ob 6000 nms w := PySem.W.byRow2 "special-get-raises" run_false run_true w
end Uk
open PySem PySem.W PySem.Calls PyProof.Rows
theorem Uk.holds (S : Uk.Says Uk.pd 63 40) : PySem.Challenge.rw_unlikeself_k15_loops_written_and_read_ba.Holds := by
  w_on; o_law
  refine HandSHeadRun.head_any (r := OpenLaw.row PySem.Challenge.rw_unlikeself_k15_loops_written_and_read_ba) (q := view (OpenLaw.row PySem.Challenge.rw_unlikeself_k15_loops_written_and_read_ba).prog [55]) (H := Uk.hookU Uk.adrs Uk.pd) (ob := Uk.ob) (M := 6000) (loose := Uk.nms) (d := HandSHeadRun.topDef (OpenLaw.row PySem.Challenge.rw_unlikeself_k15_loops_written_and_read_ba).prog 55) (kwd := []) Uk.ob_eq
    (by kernel_rfl) (fun s => by kernel_rfl) Uk.run (by kernel_rfl) (by kernel_rfl) (by kernel_rfl) (by rfl) (by first | assumption | decide +kernel) (by decide +kernel) ⟨rfl, rfl, rfl, rfl, rfl, by decide +kernel⟩ ?hw ?hc
  case hw => w_witness2
  case hc => exact Uk.law_walk (e := Uk.e_law) (fd := Uk.d_law) (x := "_law_script") Uk.good (by simp [Uk.pd]) rfl rfl (by kernel_rfl) rfl rfl (by decide) (by kernel_rfl) (by kernel_rfl) ⟨rfl, by decide, by decide⟩ S
end
section
set_option Elab.async false
set_option linter.all false
set_option maxRecDepth 100000
set_option autoImplicit false
set_option maxHeartbeats 1000000
namespace UkW
open Uk
/-! ## Runs of the interpreter, told plainly -/
/-- r ends well, in Q -/
def Ok {α : Type} (r : R α) (Q : α → G → Prop) : Prop := match r with
  | .ok a g => Q a g
  | _ => False
@[simp] theorem Ok_ok {α : Type} (a : α) (g : G) (Q : α → G → Prop) : Ok (.ok a g) Q = Q a g := rfl
@[simp] theorem Ok_bad {α : Type} (Q : α → G → Prop) : Ok (.bad : R α) Q = False := rfl
@[simp] theorem Ok_bind {α β : Type} (r : R α) (k : α → G → R β) (Q : β → G → Prop) : Ok (r.bind k) Q = Ok r (fun a g => Ok (k a g) Q) := by
  cases r <;> rfl
theorem Ok.mono {α : Type} {r : R α} {Q Q' : α → G → Prop} (h : Ok r Q) (k : ∀ a g, Q a g → Q' a g) : Ok r Q' := by
  cases r with
  | ok a g => exact k a g h
  | exc _ _ => exact h
  | bad => exact h
theorem Ok.to {α : Type} {r : R α} {Q : α → G → Prop} (h : Ok r Q) : ∃ a g, r = .ok a g ∧ Q a g := by
  cases r with
  | ok a g => exact ⟨a, g, rfl, h⟩
  | exc _ _ => exact h.elim
  | bad => exact h.elim
@[simp] theorem bind_ok {α β : Type} (a : α) (g : G) (k : α → G → R β) : (R.ok a g).bind k = k a g := rfl
theorem call_eq (P : Pg) (n : Nat) (k f : String) (args : List D) (g : G) : call P (n + 1) k f args g = match P.fn k f with
    | some fd => runF ⟨P, call P n, call P (n - 1), none⟩ fd args g
    | none => .bad := by
  cases n with
  | zero => rfl
  | succ n => rfl
theorem call_fn {P : Pg} {n : Nat} {k f : String} {fd : FDef} (h : P.fn k f = some fd) (args : List D) (g : G) : call P (n + 1) k f args g = runF ⟨P, call P n, call P (n - 1), none⟩ fd args g := by
  rw [call_eq, h]
/-- a body's run -/
theorem runF_ok {c : Cx} {fd : FDef} {args : List D} {g : G} {Q : D → G → Prop} (hl : args.length = fd.ps.length) (h : Ok (exs c fd.body (args.map some ++ List.replicate (fd.N.length - args.length) none) g) fun z g => match z.2 with
    | .nx => Q .non g
    | .rt d => Q d g) : Ok (runF c fd args g) Q := by
  unfold runF
  rw [if_pos hl, Ok_bind]
  refine h.mono fun z g q => ?_
  obtain ⟨e, f⟩ := z
  cases f <;> exact q
/-! ### operations on plain values -/
@[simp] theorem orElse_some {α : Type} (a : α) (k : α → R D) : orElse (some a) k = k a := rfl
@[simp] theorem orElse_none {α : Type} (k : α → R D) : orElse none k = .bad := rfl
@[simp] theorem atI_0 {α : Type} (x : α) (r : List α) : atI (x :: r) 0 = some x := by unfold atI sIx; simp
@[simp] theorem atI_1 {α : Type} (x y : α) (r : List α) : atI (x :: y :: r) 1 = some y := by
  unfold atI sIx
  rw [if_pos (by decide), if_pos (by simp only [List.length_cons]; omega)]
  rfl
@[simp] theorem atI_2 {α : Type} (x y z : α) (r : List α) : atI (x :: y :: z :: r) 2 = some z := by
  unfold atI sIx
  rw [if_pos (by decide), if_pos (by simp only [List.length_cons]; omega)]
  rfl
@[simp] theorem atI_3 {α : Type} (x y z u : α) (r : List α) : atI (x :: y :: z :: u :: r) 3 = some u := by
  unfold atI sIx
  rw [if_pos (by decide), if_pos (by simp only [List.length_cons]; omega)]
  rfl
theorem atI_nat {α : Type} (xs : List α) (i : Nat) (h : i < xs.length) : atI xs (i : Int) = xs[i]? := by
  unfold atI sIx
  rw [if_pos (by omega), if_pos (by omega)]
  simp
theorem atI_int {α : Type} (xs : List α) (t : Int) (h0 : 0 ≤ t) (h : t < xs.length) : ∃ x, atI xs t = some x ∧ x ∈ xs ∧ xs[t.toNat]? = some x := by
  have hl : t.toNat < xs.length := by omega
  refine ⟨xs[t.toNat], ?_, List.getElem_mem hl, List.getElem?_eq_getElem hl⟩
  unfold atI sIx
  rw [if_pos h0, if_pos h]
  simp [hl]
@[simp] theorem getIx_tup (xs : List D) (k : Int) (g : G) : getIx (.tup xs) (.int k) g = orElse (atI xs k) fun v => .ok v g := rfl
theorem getIx_ref {g : G} {a : Nat} {xs : List D} (h : g[a]? = some (.lst xs)) (k : Int) : getIx (.ref a) (.int k) g = orElse (atI xs k) fun v => .ok v g := by
  unfold getIx
  dsimp only
  rw [h]
@[simp] theorem lsOf_eq {g : G} {a : Nat} {xs : List D} (h : g[a]? = some (.lst xs)) : lsOf g a = some xs := by
  unfold lsOf
  rw [h]
  rfl
@[simp] theorem add_int (i j : Int) (g : G) : binop .add (.int i) (.int j) g = .ok (.int (i + j)) g := rfl
@[simp] theorem sub_int (i j : Int) (g : G) : binop .sub (.int i) (.int j) g = .ok (.int (i - j)) g := rfl
@[simp] theorem add_tup (xs ys : List D) (g : G) : binop .add (.tup xs) (.tup ys) g = newT (xs ++ ys) g := rfl
theorem add_ref {g : G} {a b : Nat} {xs ys : List D} (ha : g[a]? = some (.lst xs)) (hb : g[b]? = some (.lst ys)) : binop .add (.ref a) (.ref b) g = newL (xs ++ ys) g := by
  unfold binop
  dsimp only
  rw [lsOf_eq ha, lsOf_eq hb]
theorem mul_small (i j : Int) (g : G) (h : -(2 ^ 64) < j ∧ j < 2 ^ 64) : binop .mul (.int i) (.int j) g = .ok (.int (i * j)) g := by
  show (if mulOk i j then _ else _) = _
  rw [if_pos]
  unfold mulOk
  rw [decide_eq_true h.1, decide_eq_true h.2]
  simp
theorem fdiv_pos (i j : Int) (g : G) (h : 0 < j ∧ j < 1073741824) : binop .fdiv (.int i) (.int j) g = .ok (.int (i / j)) g := if_pos h
theorem mod_pos (i j : Int) (g : G) (h : 0 < j) : binop .mod (.int i) (.int j) g = .ok (.int (i % j)) g := if_pos h
theorem newT_ok {ds : List D} (h : ds.length ≤ line) (g : G) : newT ds g = .ok (.tup ds) g := if_pos h
theorem newL_ok {ds : List D} (h : ds.length ≤ line) (g : G) : newL ds g = .ok (.ref g.length) (g ++ [.lst ds]) := if_pos h
@[simp] theorem line_is : line = 16777216 := rfl
@[simp] theorem newT_n (g : G) : newT [] g = .ok (.tup []) g := newT_ok (by simp) g
@[simp] theorem newT_1 (a : D) (g : G) : newT [a] g = .ok (.tup [a]) g := newT_ok (by simp) g
@[simp] theorem newT_2 (a b : D) (g : G) : newT [a, b] g = .ok (.tup [a, b]) g := newT_ok (by simp) g
@[simp] theorem newT_3 (a b c : D) (g : G) : newT [a, b, c] g = .ok (.tup [a, b, c]) g := newT_ok (by simp) g
@[simp] theorem newT_4 (a b c d : D) (g : G) : newT [a, b, c, d] g = .ok (.tup [a, b, c, d]) g := newT_ok (by simp) g
@[simp] theorem newL_n (g : G) : newL [] g = .ok (.ref g.length) (g ++ [.lst []]) := newL_ok (by simp) g
@[simp] theorem newL_1 (a : D) (g : G) : newL [a] g = .ok (.ref g.length) (g ++ [.lst [a]]) := newL_ok (by simp) g
@[simp] theorem newL_2 (a b : D) (g : G) : newL [a, b] g = .ok (.ref g.length) (g ++ [.lst [a, b]]) := newL_ok (by simp) g
@[simp] theorem newL_3 (a b c : D) (g : G) : newL [a, b, c] g = .ok (.ref g.length) (g ++ [.lst [a, b, c]]) := newL_ok (by simp) g
@[simp] theorem sIx_0 (n : Nat) : sIx (n + 1) 0 = some 0 := by
  unfold sIx
  rw [if_pos (by decide), if_pos (by omega)]
  rfl
@[simp] theorem sIx_1 (n : Nat) : sIx (n + 1 + 1) 1 = some 1 := by
  unfold sIx
  rw [if_pos (by decide), if_pos (by omega)]
  rfl
@[simp] theorem mul31 (i : Int) (g : G) : binop .mul (.int i) (.int 31) g = .ok (.int (i * 31)) g := mul_small _ _ _ (by decide)
@[simp] theorem mul48271 (i : Int) (g : G) : binop .mul (.int i) (.int 48271) g = .ok (.int (i * 48271)) g := mul_small _ _ _ (by decide)
@[simp] theorem mod2147483647 (i : Int) (g : G) : binop .mod (.int i) (.int 2147483647) g = .ok (.int (i % 2147483647)) g := mod_pos _ _ _ (by decide)
@[simp] theorem fdiv64 (i : Int) (g : G) : binop .fdiv (.int i) (.int 64) g = .ok (.int (i / 64)) g := fdiv_pos _ _ _ (by decide)
@[simp] theorem bi_int (c : Cx) (i : Int) (g : G) : builtin c .int [.int i] g = .ok (.int i) g := rfl
@[simp] theorem bi_abs (c : Cx) (i : Int) (g : G) : builtin c .abs [.int i] g = .ok (.int (if i < 0 then -i else i)) g := rfl
theorem set_ref {g : G} {a : Nat} {xs : List D} (h : g[a]? = some (.lst xs)) (k : Int) (v : D) : setSub (.ref a) (.int k) v g = match sIx xs.length k with
    | some j => .ok () (g.set a (.lst (xs.set j v)))
    | none => .bad := by
  unfold setSub
  dsimp only
  rw [h]
  try rfl
theorem kind_lst {P : Pg} {g : G} {a : Nat} {xs : List D} (h : g[a]? = some (.lst xs)) (m : String) : kindOf P (.ref a) m g = some .lst := by
  unfold kindOf
  dsimp only
  rw [h]
@[simp] theorem lm_app : LM.of "append" = some .append := by rfl
@[simp] theorem lm_ext : LM.of "extend" = some .extend := by rfl
@[simp] theorem lm_pop : LM.of "pop" = some .pop := by rfl
theorem app_ref {g : G} {a : Nat} {xs : List D} (h : g[a]? = some (.lst xs)) (hl : xs.length < line) (y : D) : listM (.ref a) .append [y] g = .ok .non (g.set a (.lst (xs ++ [y]))) := by
  unfold listM
  dsimp only
  rw [h]
  dsimp only
  rw [if_pos hl]
theorem ext_ref {g : G} {a b : Nat} {xs ys : List D} (h : g[a]? = some (.lst xs)) (h2 : g[b]? = some (.lst ys)) (hl : xs.length + ys.length ≤ line) : listM (.ref a) .extend [.ref b] g = .ok .non (g.set a (.lst (xs ++ ys))) := by
  unfold listM
  dsimp only
  rw [h]
  dsimp only
  rw [h2]
  dsimp only
  rw [if_pos hl]
theorem pop_ref {g : G} {a : Nat} {xs : List D} (h : g[a]? = some (.lst xs)) (i : Int) (hi : 0 ≤ i ∧ i < 1073741824) : listM (.ref a) .pop [.int i] g = orElse (xs[i.toNat]?) fun y => .ok y (g.set a (.lst (xs.eraseIdx i.toNat))) := by
  unfold listM
  dsimp only
  rw [h]
  dsimp only
  rw [if_pos hi]
/-! ### comparisons -/
@[simp] theorem lt_int (c : Cx) (i j : Int) (g : G) : cmpop c .lt (.int i) (.int j) g = .ok (.bl (decide (i < j))) g := rfl
@[simp] theorem le_int (c : Cx) (i j : Int) (g : G) : cmpop c .le (.int i) (.int j) g = .ok (.bl (decide (i ≤ j))) g := rfl
@[simp] theorem gt_int (c : Cx) (i j : Int) (g : G) : cmpop c .gt (.int i) (.int j) g = .ok (.bl (decide (j < i))) g := rfl
@[simp] theorem ge_int (c : Cx) (i j : Int) (g : G) : cmpop c .ge (.int i) (.int j) g = .ok (.bl (decide (j ≤ i))) g := rfl
@[simp] theorem isn_eq (c : Cx) (x y : D) (g : G) : cmpop c .isn x y g = .ok (.bl x.isNon) g := rfl
@[simp] theorem notn_eq (c : Cx) (x y : D) (g : G) : cmpop c .notn x y g = .ok (.bl (!x.isNon)) g := rfl
theorem noref {x : D} (h : x.ok = true) : ∀ a, x ≠ .ref a := fun a e => by
  subst e
  have := of_decide_eq_true (show decide ((D.ref a).dep ≤ 60) = true from h)
  unfold D.dep at this
  omega
theorem eqF_data {g : G} {n : Nat} {x y : D} (hx : x.ok = true) (hy : y.ok = true) : eqF g (n + 1) x y = some (D.eqv x y) := by
  have h1 := noref hx
  have h2 := noref hy
  have h3 : (if (x.ok && y.ok) = true then some (D.eqv x y) else none) = some (D.eqv x y) := by rw [hx, hy]; rfl
  cases x with
  | ref a => exact absurd rfl (h1 a)
  | _ =>
    cases y with
    | ref b => exact absurd rfl (h2 b)
    | _ => exact h3
theorem eqOp_data (c : Cx) {g : G} {x y : D} (hx : x.ok = true) (hy : y.ok = true) : eqOp c x y g = .ok (D.eqv x y) g := by
  have e : eqOp c x y g = match eqF g 4 x y with
    | some b => .ok b g
    | none => .bad := by
    cases x with
    | ref a => exact absurd rfl (noref hx a)
    | _ => rfl
  rw [e, eqF_data hx hy]
theorem eq_data (c : Cx) {g : G} {x y : D} (hx : x.ok = true) (hy : y.ok = true) : cmpop c .eq x y g = .ok (.bl (D.eqv x y)) g := by
  show (eqOp c x y g).bind _ = _
  rw [eqOp_data c hx hy]
  rfl
theorem ne_data (c : Cx) {g : G} {x y : D} (hx : x.ok = true) (hy : y.ok = true) : cmpop c .ne x y g = .ok (.bl (!D.eqv x y)) g := by
  show (if neOk g x y then (eqOp c x y g).bind _ else _) = _
  have : neOk g x y = true := by
    cases x with
    | ref a => exact absurd rfl (noref hx a)
    | _ => rfl
  rw [if_pos this, eqOp_data c hx hy]
  rfl
@[simp] theorem ok_int (i : Int) : (D.int i).ok = true := Eq.trans rfl rfl
@[simp] theorem ok_bl (i : Bool) : (D.bl i).ok = true := Eq.trans rfl rfl
@[simp] theorem ok_str (i : String) : (D.str i).ok = true := Eq.trans rfl rfl
@[simp] theorem ok_non : D.non.ok = true := Eq.trans rfl rfl
theorem beq_dec {α : Type} [DecidableEq α] (a b : α) : (a == b) = decide (a = b) := by
  by_cases h : a = b
  · simp [h]
  · simp [h]
@[simp] theorem eqv_int (i j : Int) : D.eqv (.int i) (.int j) = decide (i = j) := by unfold D.eqv; exact beq_dec i j
@[simp] theorem eqv_str (i j : String) : D.eqv (.str i) (.str j) = decide (i = j) := by unfold D.eqv; exact beq_dec i j
@[simp] theorem eq_int (c : Cx) (i j : Int) (g : G) : cmpop c .eq (.int i) (.int j) g = .ok (.bl (decide (i = j))) g := by rw [eq_data c rfl rfl, eqv_int]
@[simp] theorem eq_str (c : Cx) (i j : String) (g : G) : cmpop c .eq (.str i) (.str j) g = .ok (.bl (decide (i = j))) g := by rw [eq_data c rfl rfl, eqv_str]
@[simp] theorem ne_int (c : Cx) (i j : Int) (g : G) : cmpop c .ne (.int i) (.int j) g = .ok (.bl (!decide (i = j))) g := by rw [ne_data c rfl rfl, eqv_int]
@[simp] theorem ne_bl (c : Cx) (i j : Bool) (g : G) : cmpop c .ne (.bl i) (.bl j) g = .ok (.bl (!(i == j))) g := by rw [ne_data c rfl rfl]; unfold D.eqv; rfl
@[simp] theorem eq_bl (c : Cx) (i j : Bool) (g : G) : cmpop c .eq (.bl i) (.bl j) g = .ok (.bl (i == j)) g := by rw [eq_data c rfl rfl]; unfold D.eqv; rfl
mutual
theorem eqv_refl : ∀ x : D, x.ok = true → D.eqv x x = true
  | .non, _ => rfl
  | .bl b, _ => by unfold D.eqv; simp
  | .int b, _ => by unfold D.eqv; simp
  | .str b, _ => by unfold D.eqv; simp
  | .tup xs, h => by
    unfold D.eqv
    refine eqvs_refl xs ?_
    have := of_decide_eq_true (show decide ((D.tup xs).dep ≤ 60) = true from h)
    unfold D.dep at this
    omega
  | .ref a, h => absurd rfl (noref h a)
  | .fro a, h => by
    have := of_decide_eq_true (show decide ((D.fro a).dep ≤ 60) = true from h)
    unfold D.dep at this
    omega
theorem eqvs_refl : ∀ xs : List D, D.deps xs ≤ 60 → D.eqvs xs xs = true
  | [], _ => rfl
  | x :: xs, h => by
    unfold D.deps at h
    unfold D.eqvs
    rw [eqv_refl x (decide_eq_true (by omega)), eqvs_refl xs (by omega)]
    rfl
end
/-! ### the heap -/
theorem get_app {g : G} {i : Nat} {o : O} (h : g[i]? = some o) (t : G) : (g ++ t)[i]? = some o := by
  rw [List.getElem?_append_left (List.getElem?_eq_some_iff.mp h).1]
  exact h
@[simp] theorem get_new (g : G) (o : O) : (g ++ [o])[g.length]? = some o := by simp
theorem get_set {g : G} {i : Nat} {o o' : O} (h : g[i]? = some o) : (g.set i o')[i]? = some o' := by
  rw [List.getElem?_set_self (List.getElem?_eq_some_iff.mp h).1]
theorem get_lt {g : G} {i : Nat} {o : O} (h : g[i]? = some o) : i < g.length := (List.getElem?_eq_some_iff.mp h).1
theorem len_ref {c : Cx} {g : G} {a : Nat} {xs : List D} (h : g[a]? = some (.lst xs)) : builtin c .len [.ref a] g = .ok (.int xs.length) g := by
  show lenOf c (.ref a) g = _
  unfold lenOf
  dsimp only
  rw [h]
@[simp] theorem len_tup (c : Cx) (xs : List D) (g : G) : builtin c .len [.tup xs] g = .ok (.int xs.length) g := rfl
@[simp] theorem cut_tup1 (x : D) (xs : List D) (g : G) : getCut (.tup (x :: xs)) (some 1) none g = newT xs g := by
  show newT (cutL (x :: xs) (sIxE (x :: xs).length 0 (some 1)) (sIxE (x :: xs).length (x :: xs).length none)) g = _
  have e1 : sIxE (x :: xs).length 0 (some 1) = 1 := by
    show (if (1 : Int) < 0 then ((1 : Int) + ((x :: xs).length : Int)).toNat else min (1 : Int).toNat (x :: xs).length) = 1
    rw [if_neg (by decide)]
    simp only [List.length_cons]
    show min 1 (xs.length + 1) = 1
    omega
  have e2 : sIxE (x :: xs).length (x :: xs).length none = xs.length + 1 := rfl
  rw [e1, e2]
  unfold cutL
  simp
@[simp] theorem isnC_non : isnC (.cst .non) = true := rfl
@[simp] theorem isnC_int (i : Int) : isnC (.cst (.int i)) = false := rfl
@[simp] theorem isnC_loc (i : Nat) : isnC (.loc i) = false := rfl
@[simp] theorem isnC_bin (o : Bop) (a b : E) : isnC (.bin o a b) = false := rfl
@[simp] theorem isnC_neg (a : E) : isnC (.neg a) = false := rfl
@[simp] theorem int?_non : D.non.int? = none := rfl
@[simp] theorem int?_int (i : Int) : (D.int i).int? = some i := rfl
@[simp] theorem walk_tup (xs : List D) (g : G) : walkOf (.tup xs) g = some (xs.length, .tup xs) := rfl
@[simp] theorem walk_fro (xs : List D) (g : G) : walkOf (.fro xs) g = some (xs.length, .fro xs) := rfl
theorem walk_ref {g : G} {a : Nat} {xs : List D} (h : g[a]? = some (.lst xs)) : walkOf (.ref a) g = some (xs.length, .seq a) := by
  unfold walkOf
  dsimp only
  rw [lsOf_eq h]
  rfl
@[simp] theorem enum_tup (xs : List D) (g : G) : enumOf (.tup xs) g = some (xs.length, .etup xs) := rfl
theorem enum_ref {g : G} {a : Nat} {xs : List D} (h : g[a]? = some (.lst xs)) : enumOf (.ref a) g = some (xs.length, .eseq a) := by
  unfold enumOf
  dsimp only
  rw [lsOf_eq h]
  rfl
theorem rng1_ok (n : Nat) (h : n < 1073741824) : rng1 (.int n) = some (n, .rng 0 1) := by
  unfold rng1
  dsimp only
  rw [if_pos (by omega)]
  simp
theorem item_tup {xs : List D} {i n : Nat} (h : i < xs.length) (g : G) : (Wk.tup xs).item n i g = some (some xs[i]) := by
  show some xs[i]? = _
  rw [List.getElem?_eq_getElem h]
theorem item_tup_end {xs : List D} {n : Nat} (g : G) : (Wk.tup xs).item n xs.length g = some none := by
  show some xs[xs.length]? = _
  rw [List.getElem?_eq_none (Nat.le_refl _)]
theorem item_etup {xs : List D} {i n : Nat} (h : i < xs.length) (g : G) : (Wk.etup xs).item n i g = some (some (.tup [.int i, xs[i]])) := by
  show some (xs[i]?.map _) = _
  rw [List.getElem?_eq_getElem h]
  rfl
theorem item_etup_end {xs : List D} {n : Nat} (g : G) : (Wk.etup xs).item n xs.length g = some none := by
  show some (xs[xs.length]?.map _) = _
  rw [List.getElem?_eq_none (Nat.le_refl _)]
  rfl
theorem item_seq {xs : List D} {i n a : Nat} {g : G} (ha : g[a]? = some (.lst xs)) (h : i < xs.length) : (Wk.seq a).item n i g = some (some xs[i]) := by
  show (lsOf g a).map _ = _
  rw [lsOf_eq ha]
  show some xs[i]? = _
  rw [List.getElem?_eq_getElem h]
theorem item_seq_end {xs : List D} {n a : Nat} {g : G} (ha : g[a]? = some (.lst xs)) : (Wk.seq a).item n xs.length g = some none := by
  show (lsOf g a).map _ = _
  rw [lsOf_eq ha]
  show some xs[xs.length]? = _
  rw [List.getElem?_eq_none (Nat.le_refl _)]
theorem item_eseq {xs : List D} {i n a : Nat} {g : G} (ha : g[a]? = some (.lst xs)) (h : i < xs.length) : (Wk.eseq a).item n i g = some (some (.tup [.int i, xs[i]])) := by
  show (lsOf g a).map _ = _
  rw [lsOf_eq ha]
  show some (xs[i]?.map _) = _
  rw [List.getElem?_eq_getElem h]
  rfl
theorem item_eseq_end {xs : List D} {n a : Nat} {g : G} (ha : g[a]? = some (.lst xs)) : (Wk.eseq a).item n xs.length g = some none := by
  show (lsOf g a).map _ = _
  rw [lsOf_eq ha]
  show some (xs[xs.length]?.map _) = _
  rw [List.getElem?_eq_none (Nat.le_refl _)]
  rfl
theorem item_rng {n i : Nat} (h : i < n) (g : G) : (Wk.rng 0 1).item n i g = some (some (.int i)) := by
  show some (if i < n then _ else _) = _
  rw [if_pos h]
  simp
theorem item_rng_end {n : Nat} (g : G) : (Wk.rng 0 1).item n n g = some none := by
  show some (if n < n then _ else _) = _
  rw [if_neg (Nat.lt_irrefl _)]
theorem take_next {α : Type} {xs : List α} {i : Nat} (h : i < xs.length) : xs.take (i + 1) = xs.take i ++ [xs[i]] := by
  rw [List.take_succ, List.getElem?_eq_getElem h]
  rfl
/-! ### walks -/
/-- for: an invariant I by the turn; Rt what a return has to say -/
theorem for_inv {w : Wk} {t : Tg} {body : Env → G → RS} {n : Nat} (I : Nat → Env → G → Prop) (Rt : D → G → Prop)
    (step : ∀ i δ g, i < n → I i δ g → ∃ x δ1, w.item n i g = some (some x) ∧ bindT t x δ = some δ1 ∧ Ok (body δ1 g) fun z g' => match z.2 with
      | .nx => I (i + 1) z.1 g'
      | .rt d => Rt d g') (stop : ∀ δ g, I n δ g → w.item n n g = some none) :
    ∀ (k i : Nat) (δ : Env) (g : G), i + k = n → I i δ g → Ok (forL w n t body k i δ g) fun z g' => match z.2 with
      | .nx => I n z.1 g'
      | .rt d => Rt d g'
  | 0, i, δ, g, h, hI => by
    have : i = n := by omega
    subst this
    unfold forL
    rw [stop δ g hI]
    exact hI
  | k + 1, i, δ, g, h, hI => by
    obtain ⟨x, δ1, h0, h1, h2⟩ := step i δ g (by omega) hI
    unfold forL
    rw [h0]
    dsimp only
    rw [h1]
    dsimp only
    rw [Ok_bind]
    refine h2.mono fun z g' hz => ?_
    obtain ⟨e2, f⟩ := z
    cases f with
    | nx => exact for_inv I Rt step stop k (i + 1) e2 g' (by omega) hz
    | rt d => exact hz
/-- a comprehension: the list at p as it grows -/
theorem comp_inv {w : Wk} {turn : D → G → R (Option D)} {n p : Nat} (I : Nat → List D → G → Prop) (step : ∀ i acc g, i < n → I i acc g → g[p]? = some (.lst acc) → ∃ x, w.item n i g = some (some x) ∧ Ok (turn x g) fun z g' => match z with
      | none => I (i + 1) acc g' ∧ g'[p]? = some (.lst acc)
      | some y => g'[p]? = some (.lst acc) ∧ acc.length < line ∧ I (i + 1) (acc ++ [y]) (g'.set p (.lst (acc ++ [y])))) (stop : ∀ acc g, I n acc g → w.item n n g = some none) :
    ∀ (k i : Nat) (acc : List D) (g : G), i + k = n → I i acc g → g[p]? = some (.lst acc) → Ok (compL w n p turn k i g) fun _ g' => ∃ acc', I n acc' g' ∧ g'[p]? = some (.lst acc')
  | 0, i, acc, g, h, hI, hp => by
    have : i = n := by omega
    subst this
    unfold compL
    rw [stop acc g hI]
    exact ⟨acc, hI, hp⟩
  | k + 1, i, acc, g, h, hI, hp => by
    obtain ⟨x, h0, h2⟩ := step i acc g (by omega) hI hp
    unfold compL
    rw [h0]
    dsimp only
    obtain ⟨z, g1, e1, h3⟩ := h2.to
    rw [e1]
    cases z with
    | none => exact comp_inv I step stop k (i + 1) acc g1 (by omega) h3.1 h3.2
    | some y =>
      dsimp only
      rw [h3.1]
      dsimp only
      rw [if_pos h3.2.1]
      exact comp_inv I step stop k (i + 1) (acc ++ [y]) _ (by omega) h3.2.2 (get_set h3.1)
theorem set_ne {g : G} {i j : Nat} {o o' : O} (h : g[j]? = some o) (hj : j ≠ i) : (g.set i o')[j]? = some o := by
  rw [List.getElem?_set_ne (Ne.symm hj)]
  exact h
/-! ### heaps that grow -/
def Gr (g g' : G) : Prop := ∃ t, g' = g ++ t
theorem Gr.refl (g : G) : Gr g g := ⟨[], by simp⟩
theorem Gr.trans {a b c : G} (h : Gr a b) (h2 : Gr b c) : Gr a c := by
  obtain ⟨t, rfl⟩ := h
  obtain ⟨u, rfl⟩ := h2
  exact ⟨t ++ u, by rw [List.append_assoc]⟩
theorem Gr.app (g t : G) : Gr g (g ++ t) := ⟨t, rfl⟩
theorem Gr.get {g g' : G} (h : Gr g g') {i : Nat} {o : O} (e : g[i]? = some o) : g'[i]? = some o := by
  obtain ⟨t, rfl⟩ := h
  exact get_app e t
theorem Gr.len {g g' : G} (h : Gr g g') : g.length ≤ g'.length := by
  obtain ⟨t, rfl⟩ := h
  simp
theorem Gr.set {g g' : G} (h : Gr g g') {i : Nat} (hi : g.length ≤ i) (o : O) : Gr g (g'.set i o) := by
  obtain ⟨t, rfl⟩ := h
  exact ⟨t.set (i - g.length) o, by rw [List.set_append_right _ _ hi]⟩
/-- a new list -/
def NewL (g : G) (xs : List D) (v : D) (g' : G) : Prop := ∃ j, v = .ref j ∧ Gr g g' ∧ g.length ≤ j ∧ g'[j]? = some (.lst xs)
theorem NewL.mk {g : G} {xs : List D} : NewL g xs (.ref g.length) (g ++ [.lst xs]) := ⟨_, rfl, .app _ _, Nat.le_refl _, get_new _ _⟩
theorem NewL.mono {g g0 : G} {xs : List D} {v : D} {g' : G} (h : NewL g xs v g') (h0 : Gr g0 g) : NewL g0 xs v g' := by
  obtain ⟨j, a, b, c, d⟩ := h
  exact ⟨j, a, h0.trans b, Nat.le_trans h0.len c, d⟩
/-- a comprehension whose turns only make new things -/
theorem comp_fm {w : Wk} {turn : D → G → R (Option D)} {g0 : G} {xs : List D} {n : Nat} (f : D → Option D) (hn : n = xs.length) (hw : ∀ g', Gr g0 g' → ∀ i, w.item n i g' = some xs[i]?) (hl : xs.length ≤ line)
    (ht : ∀ x, x ∈ xs → ∀ g', Gr g0 g' → Ok (turn x g') fun z g'' => z = f x ∧ Gr g' g'') : Ok (compL w n g0.length turn n 0 (g0 ++ [.lst []])) fun _ g' => Gr g0 g' ∧ g'[g0.length]? = some (.lst (xs.filterMap f)) := by
  subst hn
  refine Ok.mono (comp_inv (fun i acc g' => acc = (xs.take i).filterMap f ∧ Gr g0 g') ?step ?stop xs.length 0 [] _ (by simp) ⟨by simp, .app _ _⟩ (get_new _ _)) ?fin
  case stop =>
    rintro acc g ⟨_, h⟩
    rw [hw g h, List.getElem?_eq_none (Nat.le_refl _)]
  case step =>
    rintro i acc g hi ⟨rfl, h⟩ hp
    refine ⟨xs[i], by rw [hw g h, List.getElem?_eq_getElem hi], (ht _ (List.getElem_mem hi) g h).mono fun z g'' ⟨hz, h2⟩ => ?_⟩
    subst hz
    have hp2 := h2.get hp
    have e : (xs.take (i + 1)).filterMap f = (xs.take i).filterMap f ++ (match f xs[i] with
      | none => []
      | some y => [y]) := by
      rw [take_next hi, List.filterMap_append]
      congr 1
      rw [List.filterMap_cons]
      cases f xs[i] <;> rfl
    cases hf : f xs[i] with
    | none =>
      rw [hf] at e
      exact ⟨⟨by simpa using e.symm, h.trans h2⟩, hp2⟩
    | some y =>
      rw [hf] at e
      refine ⟨hp2, ?_, e.symm, (h.trans h2).set (Nat.le_refl _) _⟩
      have := List.length_filterMap_le f (xs.take i)
      have h3 : (xs.take i).length = i := by simp; omega
      omega
  case fin =>
    rintro _ g' ⟨acc, ⟨rfl, h⟩, hp⟩
    exact ⟨h, by simpa using hp⟩
theorem items_ref {g0 : G} {a n : Nat} {xs : List D} (h : g0[a]? = some (.lst xs)) : ∀ g', Gr g0 g' → ∀ i, (Wk.seq a).item n i g' = some xs[i]? := by
  intro g' hg i
  show (lsOf g' a).map _ = _
  rw [lsOf_eq (hg.get h)]
  rfl
theorem items_tup {g0 : G} {n : Nat} {xs : List D} : ∀ g', Gr g0 g' → ∀ i, (Wk.tup xs).item n i g' = some xs[i]? := fun _ _ _ => rfl
theorem items_fro {g0 : G} {n : Nat} {xs : List D} : ∀ g', Gr g0 g' → ∀ i, (Wk.fro xs).item n i g' = some xs[i]? := fun _ _ _ => rfl
theorem items_rng {g0 : G} {n : Nat} : ∀ g', Gr g0 g' → ∀ i, (Wk.rng 0 1).item n i g' = some (((List.range n).map fun (j : Nat) => D.int (j : Int))[i]?) := by
  intro g' _ i
  show some (if i < n then some (D.int (0 + 1 * i)) else none) = _
  rw [List.getElem?_map]
  by_cases h : i < n
  · rw [if_pos h, List.getElem?_range h]
    simp
  · rw [if_neg h, List.getElem?_eq_none (by simp; omega)]
    rfl
theorem all_ref {c : Cx} {g : G} {a : Nat} {bs : List Bool} (h : g[a]? = some (.lst (bs.map D.bl))) : builtin c .all [.ref a] g = .ok (.bl (bs.all id)) g := by
  show orElse ((lsOf g a).bind bools) _ = _
  rw [lsOf_eq h]
  have e : ∀ bs : List Bool, bools (bs.map D.bl) = some bs := by
    intro bs
    induction bs with
    | nil => rfl
    | cons b bs ih =>
      show (bools (bs.map D.bl)).map (b :: ·) = _
      rw [ih]
      rfl
  show orElse (bools (bs.map D.bl)) _ = _
  rw [e]
  rfl
/-! ### runs that may end by an error -/
def Res {α : Type} (r : R α) (Q : α → G → Prop) (X : Exn → G → Prop) : Prop := match r with
  | .ok a g => Q a g
  | .exc x g => X x g
  | .bad => False
@[simp] theorem Res_ok {α : Type} (a : α) (g : G) (Q : α → G → Prop) (X : Exn → G → Prop) : Res (.ok a g) Q X = Q a g := rfl
@[simp] theorem Res_exc {α : Type} (x : Exn) (g : G) (Q : α → G → Prop) (X : Exn → G → Prop) : Res (.exc x g : R α) Q X = X x g := rfl
@[simp] theorem Res_bad {α : Type} (Q : α → G → Prop) (X : Exn → G → Prop) : Res (.bad : R α) Q X = False := rfl
@[simp] theorem Res_bind {α β : Type} (r : R α) (k : α → G → R β) (Q : β → G → Prop) (X : Exn → G → Prop) : Res (r.bind k) Q X = Res r (fun a g => Res (k a g) Q X) X := by
  cases r <;> rfl
theorem Res.mono {α : Type} {r : R α} {Q Q' : α → G → Prop} {X X' : Exn → G → Prop} (h : Res r Q X) (k : ∀ a g, Q a g → Q' a g) (kx : ∀ x g, X x g → X' x g) : Res r Q' X' := by
  cases r with
  | ok a g => exact k a g h
  | exc x g => exact kx x g h
  | bad => exact h
theorem Ok.res {α : Type} {r : R α} {Q : α → G → Prop} {X : Exn → G → Prop} (h : Ok r Q) : Res r Q X := by
  cases r with
  | ok a g => exact h
  | exc _ _ => exact h.elim
  | bad => exact h.elim
@[simp] theorem exc_bind {α β : Type} (x : Exn) (g : G) (k : α → G → R β) : (R.exc x g : R α).bind k = .exc x g := rfl
theorem for_res {w : Wk} {t : Tg} {body : Env → G → RS} {n : Nat} (I : Nat → Env → G → Prop) (Rt : D → G → Prop) (X : Exn → G → Prop)
    (step : ∀ i δ g, i < n → I i δ g → ∃ x δ1, w.item n i g = some (some x) ∧ bindT t x δ = some δ1 ∧ Res (body δ1 g) (fun z g' => match z.2 with
      | .nx => I (i + 1) z.1 g'
      | .rt d => Rt d g') X) (stop : ∀ δ g, I n δ g → w.item n n g = some none) :
    ∀ (k i : Nat) (δ : Env) (g : G), i + k = n → I i δ g → Res (forL w n t body k i δ g) (fun z g' => match z.2 with
      | .nx => I n z.1 g'
      | .rt d => Rt d g') X
  | 0, i, δ, g, h, hI => by
    have : i = n := by omega
    subst this
    unfold forL
    rw [stop δ g hI]
    exact hI
  | k + 1, i, δ, g, h, hI => by
    obtain ⟨x, δ1, h0, h1, h2⟩ := step i δ g (by omega) hI
    unfold forL
    rw [h0]
    dsimp only
    rw [h1]
    dsimp only
    rw [Res_bind]
    refine h2.mono (fun z g' hz => ?_) fun _ _ q => q
    obtain ⟨e2, f⟩ := z
    cases f with
    | nx => exact for_res I Rt X step stop k (i + 1) e2 g' (by omega) hz
    | rt d => exact hz
theorem runF_res {c : Cx} {fd : FDef} {args : List D} {g : G} {Q : D → G → Prop} {X : Exn → G → Prop} (hl : args.length = fd.ps.length) (h : Res (exs c fd.body (args.map some ++ List.replicate (fd.N.length - args.length) none) g) (fun z g => match z.2 with
    | .nx => Q .non g
    | .rt d => Q d g) X) : Res (runF c fd args g) Q X := by
  unfold runF
  rw [if_pos hl, Res_bind]
  refine h.mono (fun z g q => ?_) fun _ _ q => q
  obtain ⟨e, f⟩ := z
  cases f <;> exact q
/-! ### instances -/
theorem att_ref {c : Cx} {g : G} {a : Nat} {k f : String} {fs : List (String × D)} {v : D} (h : g[a]? = some (.ins k fs)) (hc : c.P.cls k = true) (hp : c.P.prop k f = false) (hf : c.P.fld k f = true) (hv : lookF f fs = some v) : attr c (.ref a) f g = .ok v g := by
  unfold attr
  dsimp only
  rw [h]
  dsimp only
  rw [hc, hp, hf, hv]
  rfl
theorem fld_ref {P : Pg} {g : G} {a : Nat} {k f : String} {fs : List (String × D)} (h : g[a]? = some (.ins k fs)) (hc : P.cls k = true) (hf : P.fld k f = true) (hl : fs.length < 1000) (v : D) : setFld P (.ref a) f v g = .ok () (g.set a (.ins k (putF f v fs))) := by
  unfold setFld
  dsimp only
  rw [h]
  dsimp only
  rw [if_pos ⟨hl, hc, hf⟩]
theorem kind_ins {P : Pg} {g : G} {a : Nat} {k m : String} {fs : List (String × D)} (h : g[a]? = some (.ins k fs)) (hf : lookF m fs = none) (hc : P.cls k = true) (hp : P.prop k m = false) (hm : (P.fn k m).isSome = true) : kindOf P (.ref a) m g = some (.ins k) := by
  unfold kindOf
  dsimp only
  rw [h]
  dsimp only
  rw [hf, hc, hp, hm]
  rfl
theorem find_first {α : Type} {p : α → Bool} : ∀ {l : List α} {i : Nat} (h : i < l.length), (∀ r, r ∈ l.take i → p r = false) → p l[i] = true → l.find? p = some l[i]
  | [], i, h, _, _ => by simp at h
  | a :: l, 0, h, _, h2 => by
    have h2 : p a = true := h2
    simp [List.find?_cons, h2]
  | a :: l, i + 1, h, h1, h2 => by
    have ha := h1 a (by simp)
    rw [List.find?_cons, ha]
    exact find_first (l := l) (by simpa using h) (fun r hr => h1 r (by simp [hr])) h2
theorem list_ref {c : Cx} {g : G} {a : Nat} {xs : List D} (h : g[a]? = some (.lst xs)) : builtin c .list [.ref a] g = newL xs g := by
  show (match g[a]? with
    | some (.dT kvs) => newL (kvs.map fun p : D × D => p.1) g
    | _ => orElse (lsOf g a) fun xs => newL xs g) = _
  rw [h]
  show (orElse (lsOf g a) fun xs => newL xs g) = _
  rw [lsOf_eq h]
  rfl
end UkW
end
section
set_option Elab.async false
set_option linter.all false
set_option maxRecDepth 100000
set_option autoImplicit false
set_option maxHeartbeats 1000000
namespace UkW
open Uk

abbrev P : Pg := pgOf pd
theorem fn_below : P.fn "" "_law_below" = some d__law_below := by rfl
theorem fn_pick : P.fn "" "_law_pick" = some d__law_pick := by rfl
theorem fn_random : P.fn "" "_law_random" = some d__law_random := by rfl
/-! ## The draws -/
def Ds (l : List D) : Prop := ∃ (a b : Int) (r : List Int), l = .int a :: .int b :: r.map D.int
theorem body_run {fd : FDef} {k f : String} (hf : P.fn k f = some fd) {n : Nat} {args : List D} {g : G} {Q : D → G → Prop} (hl : args.length = fd.ps.length) (h : Ok (exs ⟨P, call P n, call P (n - 1), none⟩ fd.body (args.map some ++ List.replicate (fd.N.length - args.length) none) g) fun z g => match z.2 with
    | .nx => Q .non g
    | .rt d => Q d g) : Ok (call P (n + 1) k f args g) Q := by
  rw [call_fn hf]
  exact runF_ok hl h
theorem get_setb {g : G} {i : Nat} {o o' : O} (h : g[i]? = some o) : (g.set i o')[i]? = some o' := get_set h
theorem below (n : Nat) (g : G) (i : Nat) (l : List D) (s : Int) (hs : 0 < s) (hs2 : s < 1073741824) (hg : g[i]? = some (.lst l)) (hl : Ds l) :
    Ok (call P (n + 1) "" "_law_below" [.ref i, .int s] g) (fun v g' => ∃ (t : Int) (l' : List D), v = .int t ∧ 0 ≤ t ∧ t < s ∧ Ds l' ∧ l'.length ≤ l.length ∧ g' = g.set i (.lst l')) := by
  obtain ⟨a, b, r, rfl⟩ := hl
  refine body_run fn_below rfl ?_
  have hi := get_lt hg
  have gx : ∀ k, getIx (.ref i) (.int k) g = orElse (atI (.int a :: .int b :: r.map D.int) k) fun v => .ok v g := fun k => getIx_ref hg k
  have fin : ∀ x : Int, 0 ≤ x % s ∧ x % s < s := fun x => ⟨Int.emod_nonneg _ (by omega), Int.emod_lt_of_pos _ hs⟩
  by_cases hb : b = 0
  · subst hb
    cases r with
    | nil =>
      simp [d__law_below, exs, exe, ev, evs, gx, len_ref hg, mod_pos _ _ _ hs, set_ref hg, getIx_ref (get_set hg)]
      exact ⟨(fin _).1, (fin _).2, _, ⟨(a * 48271 + 11) % 2147483647, 0, [], rfl⟩, by simp, rfl⟩
    | cons x r =>
      have e2 : (2 : Int) < (r.length : Int) + 1 + 1 + 1 := by omega
      have e3 : ∀ o o' : O, ((g.set i o).set i o')[i]? = some o' := fun o o' => get_set (get_set hg)
      by_cases hx : 0 < x
      · simp [d__law_below, exs, exe, ev, evs, gx, len_ref hg, mod_pos _ _ _ hs, fdiv_pos _ _ _ ⟨hs, hs2⟩, set_ref hg, getIx_ref (get_set hg), kind_lst hg, pop_ref hg, set_ref (get_set hg), hx, e2]
        exact ⟨(fin _).1, (fin _).2, _, ⟨a, x / s, r, rfl⟩, by simp, rfl⟩
      · simp [d__law_below, exs, exe, ev, evs, gx, len_ref hg, mod_pos _ _ _ hs, set_ref hg, getIx_ref (get_set hg), kind_lst hg, pop_ref hg, set_ref (get_set hg), hx, e2]
        exact ⟨(fin _).1, (fin _).2, _, ⟨(a * 48271 + 11) % 2147483647, x, r, rfl⟩, by simp, rfl⟩
  · by_cases hx : 0 < b
    · simp [d__law_below, exs, exe, ev, evs, gx, len_ref hg, hb, hx, mod_pos _ _ _ hs, fdiv_pos _ _ _ ⟨hs, hs2⟩, set_ref hg]
      exact ⟨(fin _).1, (fin _).2, _, ⟨a, b / s, r, rfl⟩, by simp, rfl⟩
    · simp [d__law_below, exs, exe, ev, evs, gx, len_ref hg, hb, hx, mod_pos _ _ _ hs, set_ref hg, getIx_ref (get_set hg)]
      exact ⟨(fin _).1, (fin _).2, _, ⟨(a * 48271 + 11) % 2147483647, b, r, rfl⟩, by simp, rfl⟩
/-! ## The random state -/
def Rd (g : G) (i : Nat) : Prop := ∃ l, g[i]? = some (.lst l) ∧ Ds l
/-- only the random state at i has changed, and things are new -/
def Fr (i : Nat) (g g' : G) : Prop := g.length ≤ g'.length ∧ (∀ (j : Nat) (o : O), j ≠ i → g[j]? = some o → g'[j]? = some o) ∧ Rd g' i
theorem Fr.refl {i : Nat} {g : G} (h : Rd g i) : Fr i g g := ⟨Nat.le_refl _, fun _ _ _ e => e, h⟩
theorem Fr.trans {i : Nat} {a b c : G} (h : Fr i a b) (h2 : Fr i b c) : Fr i a c := ⟨Nat.le_trans h.1 h2.1, fun j o n e => h2.2.1 j o n (h.2.1 j o n e), h2.2.2⟩
theorem Fr.gr {i : Nat} {a b : G} (h : Rd a i) (k : Gr a b) : Fr i a b := ⟨k.len, fun _ _ _ e => k.get e, let ⟨l, e, d⟩ := h; ⟨l, k.get e, d⟩⟩
theorem Fr.lt {i : Nat} {g : G} (h : Rd g i) : i < g.length := let ⟨_, e, _⟩ := h; get_lt e
theorem draw (n : Nat) (g : G) (i : Nat) (s : Int) (hs : 0 < s) (hs2 : s < 1073741824) (h : Rd g i) : Ok (call P (n + 1) "" "_law_below" [.ref i, .int s] g) (fun v g' => Fr i g g' ∧ g'.length = g.length ∧ ∃ t : Int, v = .int t ∧ 0 ≤ t ∧ t < s) := by
  obtain ⟨l, e, d⟩ := h
  refine (below n g i l s hs hs2 e d).mono fun v g' ⟨t, l', h1, h2, h3, h4, h5, h6⟩ => ?_
  subst h6
  refine ⟨⟨by simp, fun j o hj ej => by rw [List.getElem?_set_ne (Ne.symm hj)]; exact ej, l', get_set e, h4⟩, by simp, t, h1, h2, h3⟩
theorem pick (n : Nat) (g : G) (i j : Nat) (xs : List D) (hx : 0 < xs.length) (hx2 : xs.length < 1073741824) (h : Rd g i) (hj : g[j]? = some (.lst xs)) (hij : j ≠ i) : Ok (call P (n + 2) "" "_law_pick" [.ref i, .ref j] g) (fun v g' => Fr i g g' ∧ g'.length = g.length ∧ v ∈ xs) := by
  refine body_run fn_pick rfl ?_
  obtain ⟨v, g1, e1, f1, l1, t, rfl, h0, h1⟩ := (draw n g i xs.length (by omega) (by omega) h).to
  have e2 := f1.2.1 j _ hij hj
  obtain ⟨x, a1, a2, _⟩ := atI_int xs t h0 h1
  simp [d__law_pick, exs, exe, ev, evs, len_ref hj, e1, getIx_ref e2, a1]
  exact ⟨f1, l1, a2⟩
end UkW
end
section
set_option Elab.async false
set_option linter.all false
set_option maxRecDepth 100000
set_option autoImplicit false
set_option maxHeartbeats 1000000
namespace UkW
open Uk
/-! ## The terms of a loop's text -/
inductive Part : Nat → D → Prop
  | at (k : Nat) (x : D) (hx : x.dep = 0) : Part (k + 1) (.tup [.str "at", x])
  | op (k : Nat) (h : String) (hh : h ≠ "at") (ps : List D) (hl : ps.length ≤ 2) (hp : ∀ p, p ∈ ps → Part k p) : Part (k + 1) (.tup (.str h :: ps))
mutual
def nums : D → List D
  | .tup (.str "at" :: x :: _) => [x]
  | .tup (_ :: ps) => numss ps
  | _ => []
def numss : List D → List D
  | [] => []
  | p :: ps => nums p ++ numss ps
end
theorem numss_app : ∀ xs ys : List D, numss (xs ++ ys) = numss xs ++ numss ys
  | [], ys => by simp [numss]
  | x :: xs, ys => by
    show nums x ++ numss (xs ++ ys) = (nums x ++ numss xs) ++ numss ys
    rw [numss_app xs ys, List.append_assoc]
theorem numss_one (x : D) : numss [x] = nums x := by simp [numss]
theorem numss_take (i : Nat) (xs : List D) : (numss (xs.take i)).length ≤ (numss xs).length := by
  have e := numss_app (xs.take i) (xs.drop i)
  rw [List.take_append_drop] at e
  rw [e, List.length_append]
  omega
theorem nums_op {h : String} (hh : h ≠ "at") (ps : List D) : nums (.tup (.str h :: ps)) = numss ps := by
  unfold nums
  split
  · rename_i e
    cases e
    exact absurd rfl hh
  · rename_i e
    cases e
    rfl
  · rename_i hn
    exact absurd rfl (hn _ _)
theorem nums_len : ∀ (k : Nat) (p : D), Part k p → (nums p).length ≤ 2 ^ k := by
  intro k
  induction k with
  | zero => intro p h; cases h
  | succ k ih =>
    intro p h
    cases h with
    | «at» _ x hx => show 1 ≤ _; exact Nat.one_le_two_pow
    | op _ hd hh ps hl hp =>
      rw [nums_op hh]
      match ps, hl with
      | [], _ => simp [numss]
      | [a], _ =>
        rw [numss_one]
        have := ih a (hp a (by simp))
        rw [Nat.pow_succ]
        omega
      | [a, b], _ =>
        have h1 := ih a (hp a (by simp))
        have h2 := ih b (hp b (by simp))
        rw [show numss [a, b] = nums a ++ nums b from by simp [numss], List.length_append, Nat.pow_succ]
        omega
      | _ :: _ :: _ :: _, hl => simp at hl
theorem fn_numbers : P.fn "" "numbers_in" = some d_numbers_in := by rfl
theorem numbers_ok : ∀ (k : Nat) (p : D), Part k p → k ≤ 10 → ∀ (n : Nat) (g : G), Ok (call P (n + k) "" "numbers_in" [p] g) fun v g' => NewL g (nums p) v g' := by
  intro k
  induction k with
  | zero => intro p h; cases h
  | succ k ih =>
    intro p h hk n g
    refine body_run (n := n + k) fn_numbers rfl ?_
    cases h with
    | «at» _ x hx =>
      simp [d_numbers_in, exs, exe, ev, evs]
      exact .mk
    | op _ hd hh ps hl hp =>
      simp [d_numbers_in, exs, exe, ev, evs, hh, evI, newT_ok (show ps.length ≤ line from by simp; omega)]
      refine Ok.mono (for_inv (fun i δ g' => (∃ x, δ = [some (.tup (.str hd :: ps)), some (.ref g.length), x]) ∧ Gr g g' ∧ g'[g.length]? = some (.lst (numss (ps.take i)))) (fun _ _ => False) ?step ?stop _ _ _ _ (by simp) ⟨⟨_, rfl⟩, .app _ _, by simp [numss]⟩) ?fin
      case stop => exact fun δ g' _ => item_tup_end g'
      case step =>
        rintro i _ g1 hi ⟨⟨x, rfl⟩, h3, h4⟩
        refine ⟨_, _, item_tup hi g1, rfl, ?_⟩
        obtain ⟨v, g2, e2, j, rfl, a1, a2, a3⟩ := (ih ps[i] (hp _ (List.getElem_mem hi)) (by omega) n g1).to
        have c1 := a1.get h4
        have len1 : (numss (ps.take i)).length + (nums ps[i]).length ≤ line := by
          have z := numss_take (i + 1) ps
          rw [take_next hi, numss_app, numss_one, List.length_append] at z
          have z2 := nums_len (k + 1) _ (Part.op k hd hh ps hl hp)
          rw [nums_op hh] at z2
          have z3 : 2 ^ (k + 1) ≤ 2 ^ 10 := Nat.pow_le_pow_right (by omega) (by omega)
          simp
          omega
        simp [kind_lst h4, e2, ext_ref c1 a3 len1]
        refine ⟨(h3.trans a1).set (Nat.le_refl _) _, ?_⟩
        rw [get_set c1, take_next hi, numss_app, numss_one]
      case fin =>
        intro z g' hz
        obtain ⟨e, f⟩ := z
        cases f with
        | rt d => exact hz.elim
        | nx =>
          obtain ⟨⟨x, rfl⟩, h3, h4⟩ := hz
          simp
          refine ⟨_, rfl, h3, Nat.le_refl _, ?_⟩
          rw [nums_op hh]
          simpa using h4
/-! ## Statements, the rows of a block -/
inductive St : Nat → D → Prop
  | brk (k : Nat) : St k (.tup [.str "break"])
  | set (k : Nat) (x : String) (v : D) (hv : Part 4 v) : St k (.tup [.str "set", .str x, v])
  | if_ (k : Nat) (t : D) (ht : Part 4 t) (a b : List D) (la : a.length ≤ 13) (lb : b.length ≤ 13) (ha : ∀ s, s ∈ a → St k s) (hb : ∀ s, s ∈ b → St k s) : St (k + 1) (.tup [.str "if", t, .tup a, .tup b])
theorem St.up {k : Nat} {s : D} (h : St k s) : St (k + 1) s := by
  induction h with
  | brk k => exact .brk _
  | set k x v hv => exact .set _ x v hv
  | if_ k t ht a b la lb ha hb iha ihb => exact .if_ _ t ht a b la lb iha ihb
abbrev Row : Type := List D × D
def rowsI (f : Nat → D → List Row) : Nat → List D → List Row
  | _, [] => []
  | i, s :: r => f i s ++ rowsI f (i + 1) r
theorem rowsI_app (f : Nat → D → List Row) : ∀ (a : List D) (i : Nat) (b : List D), rowsI f i (a ++ b) = rowsI f i a ++ rowsI f (i + a.length) b
  | [], i, b => by simp [rowsI]
  | s :: a, i, b => by
    show f i s ++ rowsI f (i + 1) (a ++ b) = (f i s ++ rowsI f (i + 1) a) ++ rowsI f (i + (a.length + 1)) b
    rw [rowsI_app f a (i + 1) b, List.append_assoc]
    congr 3
    omega
def blocksOf (s : D) : List D := match s with
  | .tup [.str "if", _, x, y] => [x, y]
  | _ => []
def dl (d : D) : List D := match d with
  | .tup xs => xs
  | _ => []
/-- the rows of a block: fuel, where it stands, its statements -/
def rows : Nat → List D → List D → List Row
  | 0, _, _ => []
  | k + 1, head, b => rowsI (fun i s => (head ++ [.int i], s) :: rowsI (fun j x => rows k (head ++ [.int i] ++ [.int j]) (dl x)) 0 (blocksOf s)) 0 b
def rowD (r : Row) : D := .tup [.tup r.1, r.2]
theorem rowsI_len {f : Nat → D → List Row} {m : Nat} : ∀ (b : List D) (i : Nat), (∀ j s, s ∈ b → (f j s).length ≤ m) → (rowsI f i b).length ≤ b.length * m
  | [], _, _ => by simp [rowsI]
  | s :: b, i, h => by
    have h1 := h i s List.mem_cons_self
    have h2 := rowsI_len b (i + 1) fun j s hs => h j s (List.mem_cons_of_mem _ hs)
    show (f i s ++ rowsI f (i + 1) b).length ≤ _
    rw [List.length_append, List.length_cons, Nat.succ_mul]
    omega
theorem rows_len : ∀ (k : Nat) (head b : List D), b.length ≤ 13 → (∀ s, s ∈ b → St k s) → (rows (k + 1) head b).length ≤ 30 ^ (k + 1)
  | 0, head, b, hl, hs => by
    unfold rows
    refine Nat.le_trans (rowsI_len (m := 1) b 0 fun j s h => ?_) (by omega)
    cases hs s h with
    | brk => simp [blocksOf, rowsI]
    | set x v hv => simp [blocksOf, rowsI]
  | k + 1, head, b, hl, hs => by
    unfold rows
    refine Nat.le_trans (rowsI_len (m := 1 + 2 * 30 ^ (k + 1)) b 0 fun j s h => ?_) ?_
    · cases hs s h with
      | brk => simp [blocksOf, rowsI]
      | set x v hv => simp [blocksOf, rowsI]
      | if_ _ t ht x y lx ly hx hy =>
        have h1 := rows_len k (head ++ [.int j] ++ [.int (0 : Nat)]) x lx hx
        have h2 := rows_len k (head ++ [.int j] ++ [.int (1 : Nat)]) y ly hy
        show (_ :: (rows (k + 1) (head ++ [.int j] ++ [.int (0 : Nat)]) x ++ (rows (k + 1) (head ++ [.int j] ++ [.int (1 : Nat)]) y ++ []))).length ≤ _
        simp only [List.length_cons, List.length_append, List.length_nil]
        omega
    · have h1 : 1 ≤ 30 ^ (k + 1) := Nat.one_le_pow _ _ (by omega)
      have h2 : b.length * (1 + 2 * 30 ^ (k + 1)) ≤ 13 * (1 + 2 * 30 ^ (k + 1)) := Nat.mul_le_mul_right _ hl
      rw [Nat.pow_succ 30 (k + 1)]
      omega
theorem fn_walked : P.fn "" "walked" = some d_walked := by rfl
theorem fn_blocks : P.fn "" "blocks_of" = some d_blocks_of := by rfl
theorem blocks_ok (n k : Nat) (s : D) (hs : St k s) (g : G) : Ok (call P (n + 1) "" "blocks_of" [s] g) fun v g' => v = .ref g.length ∧ g' = g ++ [.lst (blocksOf s)] := by
  refine body_run fn_blocks rfl ?_
  cases hs with
  | brk => simp [d_blocks_of, exs, exe, ev, evs, blocksOf]
  | set x v hv => simp [d_blocks_of, exs, exe, ev, evs, blocksOf]
  | if_ _ t ht x y lx ly hx hy => simp [d_blocks_of, exs, exe, ev, evs, blocksOf]
theorem St.blocks {k : Nat} {s : D} (h : St k s) : blocksOf s = [] ∨ ∃ (k' : Nat) (x y : List D), k = k' + 1 ∧ blocksOf s = [.tup x, .tup y] ∧ x.length ≤ 13 ∧ y.length ≤ 13 ∧ (∀ s, s ∈ x → St k' s) ∧ ∀ s, s ∈ y → St k' s := by
  cases h with
  | brk => exact .inl rfl
  | set x v hv => exact .inl rfl
  | if_ k' t ht x y lx ly hx hy => exact .inr ⟨k', x, y, rfl, rfl, lx, ly, hx, hy⟩
theorem rowsI_take {f : Nat → D → List Row} {b : List D} {i : Nat} (h : i < b.length) : rowsI f 0 (b.take (i + 1)) = rowsI f 0 (b.take i) ++ f i b[i] := by
  rw [take_next h, rowsI_app]
  have : (b.take i).length = i := by simp; omega
  rw [this]
  simp [rowsI]
theorem rowsI_take_len {f : Nat → D → List Row} (b : List D) (i : Nat) : (rowsI f 0 (b.take i)).length ≤ (rowsI f 0 b).length := by
  have e := rowsI_app f (b.take i) 0 (b.drop i)
  rw [List.take_append_drop] at e
  rw [e, List.length_append]
  omega
theorem walked_ok : ∀ (k : Nat) (head b : List D), b.length ≤ 13 → (∀ s, s ∈ b → St k s) → k ≤ 3 → head.length + 2 * k ≤ 50 → ∀ (n : Nat) (g : G),
    Ok (call P (n + k + 2) "" "walked" [.tup b, .tup head] g) fun v g' => NewL g ((rows (k + 1) head b).map rowD) v g' := by
  intro k
  induction k using Nat.strongRecOn with
  | ind k ih =>
  intro head b hl hs hk hh n g
  refine body_run (n := n + k + 1) fn_walked rfl ?_
  generalize hF : (fun (i : Nat) (s : D) => (((head ++ [.int i], s) : Row) :: rowsI (fun j x => rows k (head ++ [.int i] ++ [.int j]) (dl x)) 0 (blocksOf s))) = F
  have hrows : rows (k + 1) head b = rowsI F 0 b := by rw [← hF]; rfl
  have hlen := rows_len k head b hl hs
  have h30 : 30 ^ (k + 1) ≤ 30 ^ 4 := Nat.pow_le_pow_right (by omega) (by omega)
  have hbig : ∀ i, i < b.length → (rowsI F 0 (b.take (i + 1))).length ≤ 810000 := fun i hi => by
    have := rowsI_take_len (f := F) b (i + 1)
    rw [hrows] at hlen
    omega
  simp [d_walked, exs, exe, ev, evs, evI]
  refine Ok.mono (for_inv (fun i δ g' => (∃ x3 x4 x5 x6 x7, δ = [some (.tup b), some (.tup head), some (.ref g.length), x3, x4, x5, x6, x7]) ∧ Gr g g' ∧ g'[g.length]? = some (.lst ((rowsI F 0 (b.take i)).map rowD))) (fun _ _ => False) ?step ?stop _ _ _ _ (by simp) ⟨⟨_, _, _, _, _, rfl⟩, .app _ _, by simp [rowsI]⟩) ?fin
  case stop => exact fun δ g' _ => item_etup_end g'
  case fin =>
    intro z g' hz
    obtain ⟨e, f⟩ := z
    cases f with
    | rt d => exact hz.elim
    | nx =>
      obtain ⟨⟨x3, x4, x5, x6, x7, rfl⟩, h3, h4⟩ := hz
      simp
      refine ⟨_, rfl, h3, Nat.le_refl _, ?_⟩
      rw [hrows]
      simpa using h4
  case step =>
    rintro i _ g1 hi ⟨⟨x3, x4, x5, x6, x7, rfl⟩, h3, h4⟩
    refine ⟨_, _, item_etup hi g1, rfl, ?_⟩
    have hbl : b[i] ∈ b := List.getElem_mem hi
    have l1 : (head ++ [D.int (i : Int)]).length ≤ line := by simp; omega
    have l0 := rowsI_take_len (f := F) b i
    rw [← hrows] at l0
    have l2 : ((rowsI F 0 (b.take i)).map rowD).length < line := by simp; omega
    obtain ⟨v, g2, e2, rfl, rfl⟩ := (blocks_ok (n + k) k b[i] (hs _ hbl) (g1.set g.length (.lst ((rowsI F 0 (b.take i)).map rowD ++ [rowD (head ++ [.int i], b[i])])))).to
    have hm : rowD (head ++ [.int i], b[i]) = .tup [.tup (head ++ [.int i]), b[i]] := rfl
    rw [hm] at e2
    generalize hA : (rowsI F 0 (b.take i)).map rowD ++ [D.tup [.tup (head ++ [.int i]), b[i]]] = acc at e2
    generalize hB : blocksOf b[i] = bl at e2
    have e3 : (g1.set g.length (.lst acc) ++ [.lst bl])[g1.length]? = some (.lst bl) := by
      have := get_new (g1.set g.length (.lst acc)) (.lst bl)
      simpa using this
    have e4 : (g1.set g.length (.lst acc) ++ [.lst bl])[g.length]? = some (.lst acc) := get_app (get_set h4) _
    have hne : g1.length ≠ g.length := Nat.ne_of_gt (get_lt h4)
    have hFi : F i b[i] = (head ++ [.int i], b[i]) :: rowsI (fun j x => rows k (head ++ [.int i] ++ [.int j]) (dl x)) 0 bl := by rw [← hF, ← hB]
    have hgr : Gr g (g1.set g.length (.lst acc) ++ [.lst bl]) := (h3.set (Nat.le_refl _) _).trans (.app _ _)
    simp [newT_ok l1, kind_lst h4, app_ref h4 l2, hA, e2, enum_ref e3]
    generalize g1.set g.length (.lst acc) ++ [.lst bl] = g2 at e3 e4 hgr
    refine Ok.mono (for_inv (fun j δ g' => (∃ x6 x7, δ = [some (.tup b), some (.tup head), some (.ref g.length), some (.int i), some b[i], some (.tup (head ++ [.int i])), x6, x7]) ∧ Gr g g' ∧ g'[g1.length]? = some (.lst bl) ∧
      g'[g.length]? = some (.lst (acc ++ (rowsI (fun j x => rows k (head ++ [.int i] ++ [.int j]) (dl x)) 0 (bl.take j)).map rowD))) (fun _ _ => False) ?step2 ?stop2 _ _ _ _ (by simp) ⟨⟨_, _, rfl⟩, hgr, e3, by simpa [rowsI] using e4⟩) ?fin2
    case stop2 => exact fun δ g' h => item_eseq_end h.2.2.1
    case fin2 =>
      intro z g' hz
      obtain ⟨e, f⟩ := z
      cases f with
      | rt d => exact hz.elim
      | nx =>
        obtain ⟨⟨x6, x7, rfl⟩, h3, _, h4⟩ := hz
        simp
        refine ⟨h3, ?_⟩
        rw [h4, rowsI_take hi, hFi, ← hA]
        simp [rowD]
    case step2 =>
      rintro j _ g3 hj ⟨⟨x6, x7, rfl⟩, q1, q2, q3⟩
      refine ⟨_, _, item_eseq q2 hj, rfl, ?_⟩
      obtain hb0 | ⟨k', x, y, rfl, hbl2, lx, ly, sx, sy⟩ := (hs _ hbl).blocks
      · rw [hB] at hb0
        rw [hb0] at hj
        simp at hj
      · rw [hB] at hbl2
        subst hbl2
        have hjx : ∃ zs, [D.tup x, D.tup y][j] = .tup zs ∧ zs.length ≤ 13 ∧ ∀ s, s ∈ zs → St k' s := by
          match j, hj with
          | 0, _ => exact ⟨x, rfl, lx, sx⟩
          | 1, _ => exact ⟨y, rfl, ly, sy⟩
        obtain ⟨zs, ez, lz, sz⟩ := hjx
        obtain ⟨v, g4, e5, j2, rfl, a1, a2, a3⟩ := (ih k' (by omega) (head ++ [.int i] ++ [.int j]) zs lz sz (by omega) (by simp; omega) n g3).to
        have l3 : (head ++ [D.int (i : Int)] ++ [D.int (j : Int)]).length ≤ line := by simp; omega
        have c1 := a1.get q3
        have l4 : (acc ++ (rowsI (fun j x => rows (k' + 1) (head ++ [.int i] ++ [.int j]) (dl x)) 0 ([D.tup x, D.tup y].take j)).map rowD).length + ((rows (k' + 1) (head ++ [.int i] ++ [.int j]) zs).map rowD).length ≤ line := by
          have z1 := hbig i hi
          rw [rowsI_take hi, hFi] at z1
          have z2 := rowsI_take_len (f := fun (j : Nat) x => rows (k' + 1) (head ++ [.int i] ++ [.int j]) (dl x)) [D.tup x, D.tup y] (j + 1)
          rw [rowsI_take hj, ez] at z2
          rw [← hA]
          simp only [List.length_append, List.length_map, List.length_cons, List.length_nil, dl] at z1 z2 ⊢
          simp only [line_is]
          omega
        rw [ez]
        rw [show n + k' + 2 = n + (k' + 1) + 1 from by omega] at e5
        have hT : newT (head ++ [D.int i] ++ [D.int j]) g3 = .ok (.tup (head ++ [D.int i] ++ [D.int j])) g3 := newT_ok l3 _
        have hX := ext_ref c1 a3 l4
        generalize hr1 : (rowsI (fun j x => rows (k' + 1) (head ++ [.int i] ++ [.int j]) (dl x)) 0 ([D.tup x, D.tup y].take j)).map rowD = r1 at hX q3 c1
        generalize hr2 : (rows (k' + 1) (head ++ [.int i] ++ [.int j]) zs).map rowD = r2 at hX a3
        refine Ok.mono (Q := fun z g' => z = ([some (.tup b), some (.tup head), some (.ref g.length), some (.int i), some b[i], some (.tup (head ++ [.int i])), some (.int j), some (.tup zs)], .nx) ∧ g' = g4.set g.length (.lst (acc ++ r1 ++ r2))) ?_ ?_
        · generalize head ++ [D.int (i : Int)] = hd at hT e5
          simp [kind_lst q3, hT, e5, hX]
        · rintro _ _ ⟨rfl, rfl⟩
          refine ⟨⟨_, _, rfl⟩, (q1.trans a1).set (Nat.le_refl _) _, set_ne (a1.get q2) hne, ?_⟩
          rw [get_set c1, rowsI_take hj, ez, List.map_append, hr1]
          rw [show dl (D.tup zs) = zs from rfl, hr2, List.append_assoc]
end UkW
end
section
set_option Elab.async false
set_option linter.all false
set_option maxRecDepth 100000
set_option autoImplicit false
set_option maxHeartbeats 1000000
namespace UkW
open Uk
theorem getIx_nat {xs : List D} {i : Nat} (h : i < xs.length) (g : G) : getIx (.tup xs) (.int (i : Int)) g = .ok xs[i] g := by
  rw [getIx_tup, atI_nat xs i h, List.getElem?_eq_getElem h]
  rfl
end UkW
end
section
set_option Elab.async false
set_option linter.all false
set_option maxRecDepth 100000
set_option autoImplicit false
set_option maxHeartbeats 1000000
namespace UkW
open Uk
/-! ## Soundness of a statement -/
def intB (x : D) : Bool := match x with
  | .int _ => true
  | _ => false
def okN (x : D) : Bool := match x with
  | .int i => decide (0 ≤ i) && decide (i ≤ 3)
  | _ => false
def numsOf (s : D) : List D := match s with
  | .tup [.str "set", _, v] => nums v
  | .tup [.str "if", t, _, _] => nums t
  | _ => []
def soundB (path : List D) (s : D) : Bool := decide (path.length / 2 ≤ 2) && (numsOf s).all okN
theorem nums_dep : ∀ (k : Nat) (p : D), Part k p → ∀ x, x ∈ nums p → x.dep = 0 := by
  intro k
  induction k with
  | zero => intro p h; cases h
  | succ k ih =>
    intro p h x hx
    cases h with
    | «at» _ y hy =>
      have hx : x ∈ [y] := hx
      simp at hx
      rw [hx]
      exact hy
    | op _ hd hh ps hl hp =>
      rw [nums_op hh] at hx
      have key : ∀ qs : List D, (∀ q, q ∈ qs → Part k q) → x ∈ numss qs → x.dep = 0 := by
        intro qs
        induction qs with
        | nil => intro _ h; simp [numss] at h
        | cons q qs ihq =>
          intro h1 h2
          have h2 : x ∈ nums q ++ numss qs := h2
          rcases List.mem_append.mp h2 with h | h
          · exact ih q (h1 q List.mem_cons_self) x h
          · exact ihq (fun r hr => h1 r (List.mem_cons_of_mem _ hr)) h
      exact key ps hp hx
theorem fn_isint : P.fn "" "is_integer" = some d_is_integer := by rfl
theorem fn_sound : P.fn "" "is_sound" = some d_is_sound := by rfl
theorem isint_ok (n : Nat) (x : D) (hx : x.dep = 0) (g : G) : call P (n + 1) "" "is_integer" [x] g = .ok (.bl (intB x)) g := by
  have h : Ok (call P (n + 1) "" "is_integer" [x] g) fun v g' => v = .bl (intB x) ∧ g' = g := by
    refine body_run fn_isint rfl ?_
    have c1 : P.cls "int" = false := by rfl
    have c2 : P.cls "bool" = false := by rfl
    cases x with
    | ref a => unfold D.dep at hx; omega
    | fro a => unfold D.dep at hx; omega
    | _ => simp [d_is_integer, exs, exe, ev, evs, isInst, c1, c2, isType, intB]
  obtain ⟨v, g', e, rfl, rfl⟩ := h.to
  exact e
theorem sound_ok (n k : Nat) (path : List D) (s : D) (hs : St k s) (g : G) : Ok (call P (n + 6) "" "is_sound" [.tup path, s] g) fun v g' => v = .bl (soundB path s) ∧ Gr g g' := by
  refine body_run (n := n + 5) fn_sound rfl ?_
  have k1 : P.con "DEEPEST" = some (.int 2) := by rfl
  have k2 : P.con "MOST_WORTH" = some (.int 3) := by rfl
  have hfd : binop .fdiv (.int (path.length : Int)) (.int 2) g = .ok (.int ((path.length : Int) / 2)) g := fdiv_pos _ _ _ (by decide)
  have hlt : decide ((2 : Int) < (path.length : Int) / 2) = !decide (path.length / 2 ≤ 2) := by
    by_cases h : path.length / 2 ≤ 2
    · rw [decide_eq_true h, decide_eq_false (by omega)]
      rfl
    · rw [decide_eq_false h, decide_eq_true (by omega)]
      rfl
  by_cases hd : path.length / 2 ≤ 2
  · have hd' : decide ((2 : Int) < (path.length : Int) / 2) = false := by rw [hlt, decide_eq_true hd]; rfl
    -- the numbers' turn
    have main : ∀ (g1 : G) (j : Nat) (xs : List D), g1[j]? = some (.lst xs) → (∀ x, x ∈ xs → x.dep = 0) → xs.length ≤ line → Ok (exs ⟨P, call P (n + 5), call P (n + 5 - 1), none⟩ (.c (.ret (.bi .all (.c (.comp [3] (.and_ (.call "is_integer" (.c (.loc 3) .n)) (.chn (.cst (.int 0)) .le (.loc 3) .le (.glo "MOST_WORTH"))) (.one 3) (.seq (.loc 2)) (.cst (.bl true))) .n))) .n)
        [some (.tup path), some s, some (.ref j), none] g1) fun z g' => z.2 = .rt (.bl (xs.all okN)) ∧ Gr g1 g' := by
      intro g1 j xs hj hx hl
      simp [exs, exe, ev, evs, evI, walk_ref hj]
      refine Ok.mono (comp_fm (xs := xs) (fun x => some (.bl (okN x))) rfl (items_ref hj) hl fun x hxm g2 hg2 => ?_) fun _ g2 ⟨h1, h2⟩ => ?_
      · have e := isint_ok (n + 4) x (hx x hxm) g2
        have hd0 := hx x hxm
        cases x with
        | ref a => unfold D.dep at hd0; omega
        | fro a => unfold D.dep at hd0; omega
        | int q =>
          simp [bindT, Uk.wipe, e, intB, k2, okN]
          by_cases hq : 0 ≤ q
          · simp [hq]; exact .refl _
          · simp [hq]; exact .refl _
        | _ => simp [bindT, Uk.wipe, e, intB, okN]; exact .refl _
      · have e2 : xs.filterMap (fun x => some (D.bl (okN x))) = (xs.map okN).map D.bl := by
          rw [List.map_map, ← List.filterMap_eq_map]
          rfl
        rw [e2] at h2
        simp [all_ref h2]
        exact h1
    have fin : ∀ (p : D), Part 4 p → numsOf s = nums p → Ok (call P (n + 1 + 4) "" "numbers_in" [p] g) (fun v g' => ∃ j, v = .ref j ∧ Gr g g' ∧ g'[j]? = some (.lst (nums p)) ∧ (∀ x, x ∈ nums p → x.dep = 0) ∧ (nums p).length ≤ line) := fun p hp _ => (numbers_ok 4 p hp (by omega) (n + 1) g).mono fun v g' ⟨j, a, b, _, d⟩ => ⟨j, a, b, d, nums_dep 4 p hp, by
      have := nums_len 4 p hp
      simp
      omega⟩
    have body : d_is_sound.body = .c (.ife (.cmp .gt (.bin .fdiv (.bi .len (.c (.loc 0) .n)) (.cst (.int 2))) (.glo "DEEPEST")) (.c (.ret (.cst (.bl false))) .n) .n) (.c (.ife (.cmp .eq (.ix (.loc 1) (.cst (.int 0))) (.cst (.str "break"))) (.c (.ret (.cst (.bl true))) .n) .n)
      (.c (.asg 2 (.call "numbers_in" (.c (.ite (.cmp .eq (.ix (.loc 1) (.cst (.int 0))) (.cst (.str "set"))) (.ix (.loc 1) (.cst (.int 2))) (.ix (.loc 1) (.cst (.int 1)))) .n)))
      (.c (.ret (.bi .all (.c (.comp [3] (.and_ (.call "is_integer" (.c (.loc 3) .n)) (.chn (.cst (.int 0)) .le (.loc 3) .le (.glo "MOST_WORTH"))) (.one 3) (.seq (.loc 2)) (.cst (.bl true))) .n))) .n))) := rfl
    rw [body]
    generalize hT : (Ss.c (.ret (.bi .all (.c (.comp [3] (.and_ (.call "is_integer" (.c (.loc 3) .n)) (.chn (.cst (.int 0)) .le (.loc 3) .le (.glo "MOST_WORTH"))) (.one 3) (.seq (.loc 2)) (.cst (.bl true))) .n))) .n) = T at main
    cases hs with
    | brk =>
      simp [d_is_sound, exs, exe, ev, evs, k1, hfd, hd', soundB, hd, numsOf]
      exact .refl _
    | set _ x v hv =>
      obtain ⟨w, g1, e1, j, rfl, h1, h2, h3, h4⟩ := (fin v hv rfl).to
      simp [d_is_sound, exs, exe, ev, evs, k1, hfd, hd', e1]
      refine (main g1 j _ h2 h3 h4).mono fun z g' ⟨hz, hg⟩ => ?_
      rw [hz]
      exact ⟨by simp [soundB, hd, numsOf], h1.trans hg⟩
    | if_ k' t ht x y lx ly hx hy =>
      obtain ⟨w, g1, e1, j, rfl, h1, h2, h3, h4⟩ := (fin t ht rfl).to
      simp [d_is_sound, exs, exe, ev, evs, k1, hfd, hd', e1]
      refine (main g1 j _ h2 h3 h4).mono fun z g' ⟨hz, hg⟩ => ?_
      rw [hz]
      exact ⟨by simp [soundB, hd, numsOf], h1.trans hg⟩
  · have hd' : decide ((2 : Int) < (path.length : Int) / 2) = true := by rw [hlt, decide_eq_false hd]; rfl
    simp [d_is_sound, exs, exe, ev, evs, k1, hfd, hd', soundB, hd]
    exact .refl _
end UkW
end
section
set_option Elab.async false
set_option linter.all false
set_option maxRecDepth 100000
set_option autoImplicit false
set_option maxHeartbeats 1000000
namespace UkW
open Uk
theorem body_res {fd : FDef} {k f : String} (hf : P.fn k f = some fd) {n : Nat} {args : List D} {g : G} {Q : D → G → Prop} {X : Exn → G → Prop} (hl : args.length = fd.ps.length) (h : Res (exs ⟨P, call P n, call P (n - 1), none⟩ fd.body (args.map some ++ List.replicate (fd.N.length - args.length) none) g) (fun z g => match z.2 with
    | .nx => Q .non g
    | .rt d => Q d g) X) : Res (call P (n + 1) k f args g) Q X := by
  rw [call_fn hf]
  exact runF_res hl h
/-- the first row at fault: its path -/
def faultOf (rs : List Row) : Option (List D) := if 8 < rs.length then some [] else (rs.find? fun r => !soundB r.1 r.2).map (·.1)
/-- a whole block -/
structure Blk (b : List D) : Prop where
  len : b.length ≤ 13
  st : ∀ s, s ∈ b → St 3 s
abbrev rws (b : List D) : List Row := rows 4 [] b
/-- a loop that was taken stands at a -/
def LoopAt (g : G) (a : Nat) (b : List D) : Prop := ∃ j, g[a]? = some (.ins "Loop" [("own_block", .tup b), ("rows", .ref j)]) ∧ g[j]? = some (.lst ((rws b).map rowD))
theorem LoopAt.mono {g g' : G} {a : Nat} {b : List D} (h : LoopAt g a b) (k : ∀ (j : Nat) (o : O), g[j]? = some o → g'[j]? = some o) : LoopAt g' a b := let ⟨j, h1, h2⟩ := h; ⟨j, k _ _ h1, k _ _ h2⟩
theorem fn_init : P.fn "Loop" "__init__" = some d_LoopU_initU := by rfl
theorem mem_rowsI {f : Nat → D → List Row} {r : Row} : ∀ {b : List D} {i : Nat}, r ∈ rowsI f i b → ∃ (j : Nat) (h : j < b.length), r ∈ f (i + j) b[j]
  | [], i, h => by simp [rowsI] at h
  | s :: b, i, h => by
    have h : r ∈ f i s ++ rowsI f (i + 1) b := h
    rcases List.mem_append.mp h with h | h
    · exact ⟨0, by simp, h⟩
    · obtain ⟨j, hj, hr⟩ := mem_rowsI h
      exact ⟨j + 1, by simp; omega, by
        rw [show i + (j + 1) = i + 1 + j from by omega]
        exact hr⟩
theorem row_st {k : Nat} : ∀ (head b : List D), (∀ s, s ∈ b → St k s) → ∀ r, r ∈ rows (k + 1) head b → St k r.2 := by
  induction k with
  | zero =>
    intro head b hs r hr
    obtain ⟨j, hj, h⟩ := mem_rowsI hr
    have hsj := hs _ (List.getElem_mem hj)
    rcases hsj.blocks with h0 | ⟨_, _, _, h0, _⟩
    · rw [h0] at h
      simp [rowsI] at h
      rw [h]
      exact hsj
    · cases h0
  | succ k ih =>
    intro head b hs r hr
    obtain ⟨j, hj, h⟩ := mem_rowsI hr
    have hsj := hs _ (List.getElem_mem hj)
    rcases List.mem_cons.mp h with h | h
    · rw [h]
      exact hsj
    · obtain ⟨j2, hj2, h2⟩ := mem_rowsI h
      rcases hsj.blocks with h0 | ⟨k', x, y, h0, hbl, _, _, hx, hy⟩
      · rw [h0] at hj2
        simp at hj2
      · cases h0
        generalize hz : (blocksOf b[j])[j2] = z at h2
        have hm : z ∈ blocksOf b[j] := hz ▸ List.getElem_mem hj2
        rw [hbl] at hm
        simp at hm
        refine (ih _ _ ?_ r h2).up
        rcases hm with hm | hm <;> rw [hm]
        · exact hx
        · exact hy
theorem init_ok (n : Nat) (b : List D) (hb : Blk b) (g0 g : G) (hg : Gr g0 g) (a : Nat) (ha : g[a]? = some (.ins "Loop" [])) (ha0 : g0.length ≤ a) : Res (call P (n + 8) "Loop" "__init__" [.ref a, .tup b] g) (fun v g' => v = .non ∧ Gr g0 g' ∧ faultOf (rws b) = none ∧ LoopAt g' a b) fun x g' => Gr g0 g' ∧ ∃ p, faultOf (rws b) = some p ∧ x = ⟨"InvalidLoop", [("path", .tup p)]⟩ := by
  refine body_res (n := n + 7) fn_init rfl ?_
  have c0 : P.cls "Loop" = true := by rfl
  have c1 : P.fld "Loop" "own_block" = true := by rfl
  have c2 : P.fld "Loop" "rows" = true := by rfl
  have c3 : P.prop "Loop" "rows" = false := by rfl
  have c4 : P.con "MOST_STATEMENTS" = some (.int 8) := by rfl
  have c5 : P.exn "InvalidLoop" = some (some "path") := by rfl
  have s1 := fld_ref ha c0 c1 (by simp) (.tup b)
  have g1 := get_set (o' := .ins "Loop" (putF "own_block" (.tup b) [])) ha
  obtain ⟨v, g2, e2, j, rfl, h1, h2, h3⟩ := (walked_ok 3 [] b hb.len hb.st (by omega) (by simp) (n + 2) (g.set a (.ins "Loop" (putF "own_block" (.tup b) [])))).to
  have g2a := h1.get g1
  have hja : j ≠ a := fun z => by
    subst z
    have := get_lt ha
    simp at h2
    omega
  have s2 := fld_ref g2a c0 c2 (by simp [putF]) (.ref j)
  have g3 := get_set (o' := .ins "Loop" (putF "rows" (.ref j) (putF "own_block" (.tup b) []))) g2a
  have g3j : (g2.set a (.ins "Loop" (putF "rows" (.ref j) (putF "own_block" (.tup b) []))))[j]? = some (.lst ((rws b).map rowD)) := set_ne h3 hja
  have hp : putF "rows" (.ref j) (putF "own_block" (.tup b) []) = [("own_block", .tup b), ("rows", .ref j)] := by simp [putF]
  rw [hp] at s2 g3 g3j
  have gr : Gr g0 (g2.set a (.ins "Loop" [("own_block", .tup b), ("rows", .ref j)])) := ((hg.set ha0 _).trans h1).set ha0 _
  generalize g2.set a (.ins "Loop" [("own_block", .tup b), ("rows", .ref j)]) = G3 at s2 g3 g3j gr
  have at1 : ∀ f1 f2 cu, attr ⟨P, f1, f2, cu⟩ (.ref a) "rows" G3 = .ok (.ref j) G3 := fun f1 f2 cu => att_ref (c := ⟨P, f1, f2, cu⟩) (f := "rows") g3 c0 c3 c2 (v := .ref j) (by simp [lookF])
  rw [show n + 2 + 3 + 2 = n + 7 from rfl] at e2
  have hlen : (((rws b).map rowD).length : Int) = ((rws b).length : Int) := by simp
  by_cases hbig : 8 < (rws b).length
  · have hb8 : (8 : Int) < ((rws b).length : Int) := by omega
    simp [d_LoopU_initU, exs, exe, ev, evs, s1, e2, s2, at1, len_ref g3j, c4, hb8, c5]
    exact ⟨gr, by simp [faultOf, hbig]⟩
  · have hb8 : ¬ (8 : Int) < ((rws b).length : Int) := by omega
    simp [d_LoopU_initU, exs, exe, ev, evs, s1, e2, s2, at1, len_ref g3j, c4, hb8, evI, walk_ref g3j]
    refine Res.mono (for_res (fun i δ g' => (∃ x2 x3, δ = [some (.ref a), some (.tup b), x2, x3]) ∧ Gr G3 g' ∧ ∀ r, r ∈ (rws b).take i → soundB r.1 r.2 = true) (fun _ _ => False) (fun x g' => Gr g0 g' ∧ ∃ p, faultOf (rws b) = some p ∧ x = ⟨"InvalidLoop", [("path", .tup p)]⟩) ?step ?stop (rws b).length 0 _ _ (by simp) ⟨⟨_, _, rfl⟩, .refl _, by simp⟩) ?fin ?finx
    case stop =>
      rintro δ g' ⟨_, h, _⟩
      have := item_seq_end (n := (rws b).length) (h.get g3j)
      simpa using this
    case finx => exact fun x g' h => h
    case fin =>
      intro z g' hz
      obtain ⟨e, f⟩ := z
      cases f with
      | rt d => exact hz.elim
      | nx =>
        obtain ⟨⟨x2, x3, rfl⟩, h3, h4⟩ := hz
        simp
        refine ⟨gr.trans h3, ?_, j, h3.get g3, h3.get g3j⟩
        unfold faultOf
        rw [if_neg hbig, Option.map_eq_none_iff, List.find?_eq_none]
        intro r hr
        have := h4 r (by simpa using hr)
        simp [this]
    case step =>
      rintro i _ g' hi ⟨⟨x2, x3, rfl⟩, q1, q2⟩
      have hi' : i < ((rws b).map rowD).length := by simpa using hi
      have hr : (rws b)[i] ∈ rws b := List.getElem_mem hi
      refine ⟨_, [some (.ref a), some (.tup b), some (.tup (rws b)[i].1), some (rws b)[i].2], item_seq (q1.get g3j) hi', ?_, ?_⟩
      · rw [List.getElem_map]
        rfl
      · obtain ⟨v, g4, e4, rfl, q3⟩ := (sound_ok (n + 1) 3 (rws b)[i].1 (rws b)[i].2 (row_st [] b hb.st _ hr) g').to
        rw [show n + 1 + 6 = n + 7 from rfl] at e4
        cases hs : soundB (rws b)[i].1 (rws b)[i].2 with
        | true =>
          rw [hs] at e4
          refine Res.mono (Q := fun z g' => z = ([some (.ref a), some (.tup b), some (.tup (rws b)[i].1), some (rws b)[i].2], .nx) ∧ g' = g4) (X := fun _ _ => False) (by simp [e4]) ?_ (fun _ _ h => h.elim)
          rintro _ _ ⟨rfl, rfl⟩
          refine ⟨⟨_, _, rfl⟩, q1.trans q3, fun r hr2 => ?_⟩
          rw [take_next hi] at hr2
          rcases List.mem_append.mp hr2 with h | h
          · exact q2 r h
          · rw [List.mem_singleton.mp h]
            exact hs
        | false =>
          rw [hs] at e4
          simp [e4, c5]
          refine ⟨gr.trans (q1.trans q3), ?_⟩
          unfold faultOf
          rw [if_neg hbig, find_first hi (fun r hr => by simp [q2 r hr]) (by simp [hs])]
          rfl
end UkW
end
section
set_option autoImplicit false
namespace Mac
/-! ## Loops, plainly -/
inductive Wo where | num (i : Int) | odd
  deriving DecidableEq, Repr
/-- an object: its worth, its mark -/
abbrev Th := Wo × Int
abbrev Ot := Option Th
inductive Nm where | a | b
  deriving DecidableEq, Repr
inductive Bs where | item | nm (x : Nm)
  deriving DecidableEq, Repr
/-- a value that is no copy -/
inductive Pv where | bs (x : Bs) | none | at (k : Int)
  deriving DecidableEq, Repr
inductive Vl where | pv (v : Pv) | copy (x : Bs)
  deriving DecidableEq, Repr
inductive Wd where | same | alike | in_ | below
  deriving DecidableEq, Repr
structure Ts where
  neg : Bool
  w : Wd
  x : Pv
  y : Pv
  deriving DecidableEq, Repr
mutual
inductive Sm where | brk | set (x : Nm) (v : Vl) | ifs (t : Ts) (y n : Bk)
inductive Bk where | nil | cons (s : Sm) (b : Bk)
end
/-! ### What a loop does -/
structure St where
  a : Ot
  b : Ot
  over : Bool
  low : Int
  deriving DecidableEq, Repr
def St.get (s : St) : Nm → Ot
  | .a => s.a
  | .b => s.b
def St.put (s : St) (x : Nm) (v : Ot) : St := match x with
  | .a => { s with a := v }
  | .b => { s with b := v }
def Bs.val (x : Bs) (s : St) (item : Th) : Ot := match x with
  | .item => some item
  | .nm x => s.get x
def Pv.val (v : Pv) (s : St) (item : Th) : Ot := match v with
  | .bs x => x.val s item
  | .none => Option.none
  | .at k => some (.num k, -1)
def fresh (o : Ot) (s : St) : Ot × St := match o with
  | none => (none, s)
  | some (w, _) => (some (w, s.low - 1), { s with low := s.low - 1 })
def Vl.val (v : Vl) (s : St) (item : Th) : Ot × St := match v with
  | .pv v => (v.val s item, s)
  | .copy x => fresh (x.val s item) s
def like : Ot → Ot → Bool
  | none, none => true
  | some (.num i, _), some (.num j, _) => i == j
  | _, _ => false
def less : Ot → Ot → Bool
  | some (.num i, _), some (.num j, _) => decide (i < j)
  | _, _ => false
def Wd.holds (w : Wd) (x y : Ot) : Bool := match w with
  | .same => decide (x = y)
  | .alike => like x y
  | .in_ => decide (x = y) || like x y
  | .below => less x y
def Ts.holds (t : Ts) (s : St) (item : Th) : Bool := t.neg ^^ t.w.holds (t.x.val s item) (t.y.val s item)
mutual
def Sm.run : Sm → Th → St → St
  | .brk, _, s => { s with over := true }
  | .set x v, i, s => let r := v.val s i; r.2.put x r.1
  | .ifs t y n, i, s => if t.holds s i then y.run i s else n.run i s
def Bk.run : Bk → Th → St → St
  | .nil, _, s => s
  | .cons t b, i, s => if s.over then s else b.run i (t.run i s)
end
theorem Bk.run_over (b : Bk) (i : Th) {s : St} (h : s.over = true) : b.run i s = s := by
  cases b with
  | nil => simp [Bk.run]
  | cons t b => simp [Bk.run, h]
/-- what is told -/
def wordOf : Ot → Option Wo
  | none => none
  | some (w, _) => some w
def told (a b : Ot) : Option Wo × Option Wo × Bool := (wordOf a, wordOf b, decide (a = b))
/-! ### Steps -/
abbrev State := Ot × Ot × Bool
def start : State := (none, none, false)
def leastMark (l : List Ot) : Int := l.foldl (fun m o => match o with
  | some (_, k) => min m k
  | none => m) (-1)
structure Plan where
  blk : Bk
  cop : Bool
  skp : Bool
def Plan.step (p : Plan) (st : State) (item : Th) (others : List Ot) : State :=
  if st.2.2 || (p.skp && item.1 == .odd) then st else
  let s0 : St := ⟨st.1, st.2.1, false, leastMark (st.1 :: st.2.1 :: some item :: others)⟩
  let r := if p.cop then fresh (some item) s0 else (some item, s0)
  let s := p.blk.run (r.1.getD item) r.2
  (s.a, s.b, s.over)
/-! ### Marks renamed -/
structure Bij (ρ : Int → Int → Prop) : Prop where
  inj : ∀ {x x' y y' : Int}, ρ x x' → ρ y y' → (x = y ↔ x' = y')
def TR (ρ : Int → Int → Prop) : Ot → Ot → Prop
  | none, none => True
  | some (w, m), some (w', m') => w = w' ∧ ρ m m'
  | _, _ => False
theorem TR.mono {ρ ρ' : Int → Int → Prop} (h : ∀ x x', ρ x x' → ρ' x x') : ∀ {o o' : Ot}, TR ρ o o' → TR ρ' o o'
  | none, none, _ => trivial
  | some _, some _, q => ⟨q.1, h _ _ q.2⟩
  | none, some _, q => q.elim
  | some _, none, q => q.elim
theorem TR.eq {ρ : Int → Int → Prop} (B : Bij ρ) : ∀ {x x' y y' : Ot}, TR ρ x x' → TR ρ y y' → (x = y ↔ x' = y')
  | none, none, none, none, _, _ => by simp
  | none, none, some _, some _, _, _ => by simp
  | some _, some _, none, none, _, _ => by simp
  | some (w, m), some (w', m'), some (u, k), some (u', k'), h, q => by
    have e := B.inj h.2 q.2
    obtain ⟨rfl, _⟩ := h
    obtain ⟨rfl, _⟩ := q
    simp only [Option.some.injEq, Prod.mk.injEq]
    rw [e]
  | none, some _, _, _, h, _ => h.elim
  | some _, none, _, _, h, _ => h.elim
  | _, _, none, some _, _, q => q.elim
  | _, _, some _, none, _, q => q.elim
theorem TR.word {ρ : Int → Int → Prop} : ∀ {x x' : Ot}, TR ρ x x' → wordOf x = wordOf x'
  | none, none, _ => rfl
  | some (w, m), some (w', m'), h => by simp [wordOf, h.1]
  | none, some _, h => h.elim
  | some _, none, h => h.elim
theorem TR.told {ρ : Int → Int → Prop} (B : Bij ρ) {x x' y y' : Ot} (h : TR ρ x x') (q : TR ρ y y') : told x y = told x' y' := by
  unfold Mac.told
  rw [h.word, q.word]
  congr 2
  exact decide_eq_decide.mpr (h.eq B q)
theorem TR.like {ρ : Int → Int → Prop} : ∀ {x x' y y' : Ot}, TR ρ x x' → TR ρ y y' → like x y = like x' y'
  | none, none, none, none, _, _ => rfl
  | none, none, some _, some _, _, _ => rfl
  | some (w, _), some (w', _), none, none, h, _ => by
    obtain ⟨rfl, _⟩ := h
    cases w <;> rfl
  | some (w, m), some (w', m'), some (u, k), some (u', k'), h, q => by
    obtain ⟨rfl, _⟩ := h
    obtain ⟨rfl, _⟩ := q
    cases w <;> cases u <;> rfl
  | none, some _, _, _, h, _ => h.elim
  | some _, none, _, _, h, _ => h.elim
  | _, _, none, some _, _, q => q.elim
  | _, _, some _, none, _, q => q.elim
theorem TR.less {ρ : Int → Int → Prop} : ∀ {x x' y y' : Ot}, TR ρ x x' → TR ρ y y' → less x y = less x' y'
  | none, none, none, none, _, _ => rfl
  | none, none, some _, some _, _, _ => rfl
  | some (w, _), some (w', _), none, none, h, _ => by
    obtain ⟨rfl, _⟩ := h
    cases w <;> rfl
  | some (w, m), some (w', m'), some (u, k), some (u', k'), h, q => by
    obtain ⟨rfl, _⟩ := h
    obtain ⟨rfl, _⟩ := q
    cases w <;> cases u <;> rfl
  | none, some _, _, _, h, _ => h.elim
  | some _, none, _, _, h, _ => h.elim
  | _, _, none, some _, _, q => q.elim
  | _, _, some _, none, _, q => q.elim
/-- two states that differ by names of marks alone -/
structure SR (ρ : Int → Int → Prop) (s s' : St) : Prop where
  bij : Bij ρ
  at_ : ρ (-1) (-1)
  low : ∀ {x x' : Int}, ρ x x' → s.low ≤ x ∧ s'.low ≤ x'
  a : TR ρ s.a s'.a
  b : TR ρ s.b s'.b
  over : s.over = s'.over
section
variable {ρ : Int → Int → Prop} {s s' : St} {i i' : Th}
theorem SR.get (h : SR ρ s s') (x : Nm) : TR ρ (s.get x) (s'.get x) := by
  cases x
  · exact h.a
  · exact h.b
theorem SR.bs (h : SR ρ s s') (hi : TR ρ (some i) (some i')) (x : Bs) : TR ρ (x.val s i) (x.val s' i') := by
  cases x with
  | item => exact hi
  | nm x => exact h.get x
theorem SR.pv (h : SR ρ s s') (hi : TR ρ (some i) (some i')) (x : Pv) : TR ρ (x.val s i) (x.val s' i') := by
  cases x with
  | bs x => exact h.bs hi x
  | none => trivial
  | «at» k => exact ⟨rfl, h.at_⟩
theorem SR.holds (h : SR ρ s s') (hi : TR ρ (some i) (some i')) (t : Ts) : t.holds s i = t.holds s' i' := by
  have h1 := h.pv hi t.x
  have h2 := h.pv hi t.y
  have e : decide (t.x.val s i = t.y.val s i) = decide (t.x.val s' i' = t.y.val s' i') := decide_eq_decide.mpr (h1.eq h.bij h2)
  unfold Ts.holds
  congr 1
  cases t.w with
  | same => exact e
  | alike => exact h1.like h2
  | below => exact h1.less h2
  | in_ => simp only [Wd.holds]; rw [e, h1.like h2]
theorem SR.put (h : SR ρ s s') (x : Nm) {v v' : Ot} (q : TR ρ v v') : SR ρ (s.put x v) (s'.put x v') := by
  cases x
  · exact ⟨h.bij, h.at_, h.low, q, h.b, h.over⟩
  · exact ⟨h.bij, h.at_, h.low, h.a, q, h.over⟩
/-- ρ with one pair more -/
def more (ρ : Int → Int → Prop) (l l' : Int) : Int → Int → Prop := fun x x' => ρ x x' ∨ (x = l ∧ x' = l')
/-- ρ' has all of ρ, and pairs of marks below l, l' -/
def Grow (ρ ρ' : Int → Int → Prop) (l l' : Int) : Prop := (∀ x x', ρ x x' → ρ' x x') ∧ ∀ x x', ρ' x x' → ρ x x' ∨ (x < l ∧ x' < l')
theorem Grow.refl (ρ : Int → Int → Prop) (l l' : Int) : Grow ρ ρ l l' := ⟨fun _ _ h => h, fun _ _ h => .inl h⟩
theorem Grow.trans {ρ₁ ρ₂ ρ₃ : Int → Int → Prop} {l l' k k' : Int} (a : Grow ρ₁ ρ₂ l l') (b : Grow ρ₂ ρ₃ k k') (h : k ≤ l) (h' : k' ≤ l') : Grow ρ₁ ρ₃ l l' :=
  ⟨fun x x' q => b.1 _ _ (a.1 _ _ q), fun x x' q => by
    rcases b.2 _ _ q with q | ⟨q, q'⟩
    · exact a.2 _ _ q
    · exact .inr ⟨by omega, by omega⟩⟩
theorem SR.fresh (h : SR ρ s s') {o o' : Ot} (q : TR ρ o o') : ∃ ρ', Grow ρ ρ' s.low s'.low ∧ SR ρ' (fresh o s).2 (fresh o' s').2 ∧ TR ρ' (fresh o s).1 (fresh o' s').1 ∧ (Mac.fresh o s).2.low ≤ s.low ∧ (Mac.fresh o' s').2.low ≤ s'.low := by
  match o, o', q with
  | none, none, _ => exact ⟨ρ, .refl _ _ _, h, trivial, Int.le_refl _, Int.le_refl _⟩
  | some (w, m), some (w', m'), q =>
    obtain ⟨rfl, _⟩ := q
    have mono : ∀ x x', ρ x x' → more ρ (s.low - 1) (s'.low - 1) x x' := fun _ _ h => .inl h
    refine ⟨more ρ (s.low - 1) (s'.low - 1), ⟨mono, fun x x' q => ?_⟩, ⟨⟨?_⟩, .inl h.at_, ?_, h.a.mono mono, h.b.mono mono, h.over⟩, ⟨rfl, .inr ⟨rfl, rfl⟩⟩, ?_, ?_⟩
    · rcases q with q | ⟨rfl, rfl⟩
      · exact .inl q
      · exact .inr ⟨by omega, by omega⟩
    · intro x x' y y' hx hy
      rcases hx with hx | ⟨rfl, rfl⟩ <;> rcases hy with hy | ⟨rfl, rfl⟩
      · exact h.bij.inj hx hy
      · have := h.low hx
        omega
      · have := h.low hy
        omega
      · simp
    · intro x x' q
      show s.low - 1 ≤ x ∧ s'.low - 1 ≤ x'
      rcases q with q | ⟨rfl, rfl⟩
      · have := h.low q
        omega
      · omega
    · show s.low - 1 ≤ s.low
      omega
    · show s'.low - 1 ≤ s'.low
      omega
theorem SR.vl (h : SR ρ s s') (hi : TR ρ (some i) (some i')) (v : Vl) : ∃ ρ', Grow ρ ρ' s.low s'.low ∧ SR ρ' (v.val s i).2 (v.val s' i').2 ∧ TR ρ' (v.val s i).1 (v.val s' i').1 ∧ (v.val s i).2.low ≤ s.low ∧ (v.val s' i').2.low ≤ s'.low := by
  cases v with
  | pv v => exact ⟨ρ, .refl _ _ _, h, h.pv hi v, Int.le_refl _, Int.le_refl _⟩
  | copy x => exact h.fresh (h.bs hi x)
theorem put_low (s : St) (x : Nm) (v : Ot) : (s.put x v).low = s.low := by cases x <;> rfl
end
mutual
theorem Sm.ren {i i' : Th} : ∀ (t : Sm) {ρ : Int → Int → Prop} {s s' : St}, SR ρ s s' → TR ρ (some i) (some i') → ∃ ρ', Grow ρ ρ' s.low s'.low ∧ SR ρ' (t.run i s) (t.run i' s') ∧ (t.run i s).low ≤ s.low ∧ (t.run i' s').low ≤ s'.low
  | .brk, ρ, s, s', h, hi => ⟨ρ, .refl _ _ _, ⟨h.bij, h.at_, h.low, h.a, h.b, rfl⟩, Int.le_refl _, Int.le_refl _⟩
  | .set x v, ρ, s, s', h, hi => by
    obtain ⟨ρ', h1, h2, h3, h4, h5⟩ := h.vl hi v
    refine ⟨ρ', h1, ?_, ?_, ?_⟩
    · show SR ρ' ((v.val s i).2.put x (v.val s i).1) ((v.val s' i').2.put x (v.val s' i').1)
      exact h2.put x h3
    · show ((v.val s i).2.put x _).low ≤ _
      rw [put_low]; exact h4
    · show ((v.val s' i').2.put x _).low ≤ _
      rw [put_low]; exact h5
  | .ifs t y n, ρ, s, s', h, hi => by
    have e := h.holds hi t
    cases ht : t.holds s i with
    | true =>
      have ht' : t.holds s' i' = true := e ▸ ht
      have e1 : (Sm.ifs t y n).run i s = y.run i s := by simp [Sm.run, ht]
      have e2 : (Sm.ifs t y n).run i' s' = y.run i' s' := by simp [Sm.run, ht']
      rw [e1, e2]
      exact Bk.ren y h hi
    | false =>
      have ht' : t.holds s' i' = false := e ▸ ht
      have e1 : (Sm.ifs t y n).run i s = n.run i s := by simp [Sm.run, ht]
      have e2 : (Sm.ifs t y n).run i' s' = n.run i' s' := by simp [Sm.run, ht']
      rw [e1, e2]
      exact Bk.ren n h hi
theorem Bk.ren {i i' : Th} : ∀ (b : Bk) {ρ : Int → Int → Prop} {s s' : St}, SR ρ s s' → TR ρ (some i) (some i') → ∃ ρ', Grow ρ ρ' s.low s'.low ∧ SR ρ' (b.run i s) (b.run i' s') ∧ (b.run i s).low ≤ s.low ∧ (b.run i' s').low ≤ s'.low
  | .nil, ρ, s, s', h, hi => by
    rw [Bk.run, Bk.run]
    exact ⟨ρ, .refl _ _ _, h, Int.le_refl _, Int.le_refl _⟩
  | .cons t b, ρ, s, s', h, hi => by
    cases ho : s.over with
    | true =>
      have ho' : s'.over = true := h.over ▸ ho
      rw [Bk.run_over _ _ ho, Bk.run_over _ _ ho']
      exact ⟨ρ, .refl _ _ _, h, Int.le_refl _, Int.le_refl _⟩
    | false =>
      have ho' : s'.over = false := h.over ▸ ho
      obtain ⟨ρ1, g1, h1, l1, l1'⟩ := Sm.ren t h hi
      obtain ⟨ρ2, g2, h2, l2, l2'⟩ := Bk.ren b h1 (hi.mono g1.1)
      have e1 : (Bk.cons t b).run i s = b.run i (t.run i s) := by simp [Bk.run, ho]
      have e2 : (Bk.cons t b).run i' s' = b.run i' (t.run i' s') := by simp [Bk.run, ho']
      rw [e1, e2]
      exact ⟨ρ2, g1.trans g2 l1 l1', h2, Int.le_trans l2 l1, Int.le_trans l2' l1'⟩
end
end Mac
end
section
set_option Elab.async false
set_option linter.all false
set_option maxRecDepth 100000
set_option autoImplicit false
set_option maxHeartbeats 1000000
namespace UkW
open Uk
open Mac (Wo Th Ot Nm Bs Pv Vl Wd Ts Sm Bk)
/-! ## Loops as the program has them -/
def woD : Wo → D
  | .num i => .int i
  | .odd => .str "odd"
def thD (t : Th) : D := .tup [woD t.1, .int t.2]
def otD : Ot → D
  | none => .non
  | some t => thD t
def nmS : Nm → String
  | .a => "a"
  | .b => "b"
def bsD : Bs → D
  | .item => .tup [.str "item"]
  | .nm x => .tup [.str (nmS x)]
def pvD : Pv → D
  | .bs x => bsD x
  | .none => .tup [.str "none"]
  | .at k => .tup [.str "at", .int k]
def vlD : Vl → D
  | .pv v => pvD v
  | .copy x => .tup [.str "copy", bsD x]
def wdS : Wd → String
  | .same => "same"
  | .alike => "like"
  | .in_ => "in"
  | .below => "less"
def t0D (w : Wd) (x y : Pv) : D := .tup [.str (wdS w), pvD x, pvD y]
def tsD (t : Ts) : D := if t.neg then .tup [.str "not", t0D t.w t.x t.y] else t0D t.w t.x t.y
mutual
def smD : Sm → D
  | .brk => .tup [.str "break"]
  | .set x v => .tup [.str "set", .str (nmS x), vlD v]
  | .ifs t y n => .tup [.str "if", tsD t, .tup (bkD y), .tup (bkD n)]
def bkD : Bk → List D
  | .nil => []
  | .cons s b => smD s :: bkD b
end
def bkLen : Bk → Nat
  | .nil => 0
  | .cons _ b => bkLen b + 1
theorem bkD_len : ∀ b : Bk, (bkD b).length = bkLen b
  | .nil => rfl
  | .cons s b => by simp [bkD, bkLen, bkD_len b]
/-! ### what is well made -/
def pvOk : Pv → Prop
  | .at k => 0 ≤ k ∧ k ≤ 3
  | _ => True
def vlOk : Vl → Prop
  | .pv v => pvOk v
  | .copy _ => True
def tsOk (t : Ts) : Prop := pvOk t.x ∧ pvOk t.y
mutual
/-- written numbers from 0 to 3, at most k ifs within one another -/
def smOk : Nat → Sm → Prop
  | _, .brk => True
  | _, .set _ v => vlOk v
  | k, .ifs t y n => tsOk t ∧ ∃ j, k = j + 1 ∧ bkLen y ≤ 13 ∧ bkLen n ≤ 13 ∧ bkOk j y ∧ bkOk j n
def bkOk : Nat → Bk → Prop
  | _, .nil => True
  | k, .cons s b => smOk k s ∧ bkOk k b
end
mutual
theorem smOk_up : ∀ {k : Nat} (s : Sm), smOk k s → smOk (k + 1) s
  | _, .brk, _ => by unfold smOk; trivial
  | _, .set _ v, h => by unfold smOk at h ⊢; exact h
  | k, .ifs t y n, h => by
    unfold smOk at h ⊢
    obtain ⟨h1, j, rfl, h2, h3, h4, h5⟩ := h
    exact ⟨h1, j + 1, rfl, h2, h3, bkOk_up y h4, bkOk_up n h5⟩
theorem bkOk_up : ∀ {k : Nat} (b : Bk), bkOk k b → bkOk (k + 1) b
  | _, .nil, _ => by unfold bkOk; trivial
  | _, .cons s b, h => by
    unfold bkOk at h ⊢
    exact ⟨smOk_up s h.1, bkOk_up b h.2⟩
end
theorem part_bs (k : Nat) (x : Bs) : Part (k + 1) (bsD x) := by
  cases x with
  | item => exact .op _ "item" (by decide) [] (by simp) (by simp)
  | nm x => cases x <;> exact .op _ _ (by decide) [] (by simp) (by simp)
theorem part_pv (k : Nat) (x : Pv) : Part (k + 1) (pvD x) := by
  cases x with
  | bs x => exact part_bs k x
  | none => exact .op _ "none" (by decide) [] (by simp) (by simp)
  | «at» i => exact .at _ _ rfl
theorem part_vl (k : Nat) (x : Vl) : Part (k + 2) (vlD x) := by
  cases x with
  | pv v => exact part_pv _ v
  | copy x => exact .op _ "copy" (by decide) [bsD x] (by simp) (by simpa using part_bs k x)
theorem part_t0 (k : Nat) (w : Wd) (x y : Pv) : Part (k + 2) (t0D w x y) := by
  refine .op _ (wdS w) (by cases w <;> decide) [pvD x, pvD y] (by simp) ?_
  intro p hp
  simp at hp
  rcases hp with rfl | rfl
  · exact part_pv k x
  · exact part_pv k y
theorem part_ts (k : Nat) (t : Ts) : Part (k + 3) (tsD t) := by
  unfold tsD
  split
  · exact .op _ "not" (by decide) [_] (by simp) (by simpa using part_t0 k t.w t.x t.y)
  · exact part_t0 (k + 1) t.w t.x t.y
mutual
theorem st_sm : ∀ {k : Nat} (s : Sm), smOk k s → St k (smD s)
  | k, .brk, _ => .brk k
  | k, .set x v, _ => .set k (nmS x) (vlD v) (part_vl 2 v)
  | k, .ifs t y n, h => by
    unfold smOk at h
    obtain ⟨h1, j, rfl, h2, h3, h4, h5⟩ := h
    exact .if_ j (tsD t) (part_ts 1 t) (bkD y) (bkD n) (by rw [bkD_len]; exact h2) (by rw [bkD_len]; exact h3) (st_bk y h4) (st_bk n h5)
theorem st_bk : ∀ {k : Nat} (b : Bk), bkOk k b → ∀ s, s ∈ bkD b → St k s
  | k, .nil, _, s, hs => by simp [bkD] at hs
  | k, .cons t b, h, s, hs => by
    unfold bkOk at h
    simp [bkD] at hs
    rcases hs with rfl | hs
    · exact st_sm t h.1
    · exact st_bk b h.2 s hs
end
/-! ### rows -/
abbrev RowT : Type := List Int × Sm
mutual
def rowsS : List Int → Sm → List RowT
  | _, .brk => []
  | _, .set _ _ => []
  | p, .ifs _ y n => rowsT (p ++ [0]) 0 y ++ rowsT (p ++ [1]) 0 n
/-- the statements of a block with their paths, in reading order -/
def rowsT : List Int → Int → Bk → List RowT
  | _, _, .nil => []
  | h, i, .cons s b => (h ++ [i], s) :: rowsS (h ++ [i]) s ++ rowsT h (i + 1) b
end
def rowTD (r : RowT) : Row := (r.1.map D.int, smD r.2)
theorem rows_zero (head b : List D) : rows 0 head b = [] := rfl
theorem map_snoc (h : List Int) (i : Int) : (h ++ [i]).map D.int = h.map D.int ++ [D.int i] := by simp
mutual
theorem rowsS_eq : ∀ {k : Nat} (s : Sm) (p : List Int), smOk k s → rowsI (fun j x => rows (k) (p.map D.int ++ [.int (j : Nat)]) (dl x)) 0 (blocksOf (smD s)) = (rowsS p s).map rowTD
  | k, .brk, p, h => rfl
  | k, .set _ _, p, h => rfl
  | k, .ifs t y n, p, h => by
    unfold smOk at h
    obtain ⟨h1, j, rfl, h2, h3, h4, h5⟩ := h
    have e1 := rowsT_eq y (p ++ [0]) 0 h4
    have e2 := rowsT_eq n (p ++ [1]) 0 h5
    rw [map_snoc] at e1 e2
    have e1 : rows (j + 1) (p.map D.int ++ [.int (0 : Nat)]) (bkD y) = (rowsT (p ++ [0]) 0 y).map rowTD := e1
    have e2 : rows (j + 1) (p.map D.int ++ [.int ((0 + 1 : Nat))]) (bkD n) = (rowsT (p ++ [1]) 0 n).map rowTD := e2
    show rows (j + 1) (p.map D.int ++ [.int (0 : Nat)]) (bkD y) ++ (rows (j + 1) (p.map D.int ++ [.int ((0 + 1 : Nat))]) (bkD n) ++ []) = (rowsT (p ++ [0]) 0 y ++ rowsT (p ++ [1]) 0 n).map rowTD
    rw [List.append_nil, List.map_append, e1, e2]
theorem rowsT_eq : ∀ {k : Nat} (b : Bk) (h : List Int) (i : Nat), bkOk k b → rowsI (fun i s => (h.map D.int ++ [.int (i : Nat)], s) :: rowsI (fun j x => rows k (h.map D.int ++ [.int (i : Nat)] ++ [.int (j : Nat)]) (dl x)) 0 (blocksOf s)) i (bkD b) = (rowsT h i b).map rowTD
  | k, .nil, h, i, _ => rfl
  | k, .cons s b, h, i, q => by
    unfold bkOk at q
    have e1 := rowsS_eq s (h ++ [(i : Int)]) q.1
    have e2 := rowsT_eq b h (i + 1) q.2
    rw [map_snoc] at e1
    show ((h.map D.int ++ [.int (i : Nat)], smD s) :: rowsI _ 0 (blocksOf (smD s))) ++ rowsI _ (i + 1) (bkD b) = ((h ++ [(i : Int)], s) :: rowsS (h ++ [(i : Int)]) s ++ rowsT h ((i : Int) + 1) b).map rowTD
    rw [e1, e2, List.map_append, List.map_cons]
    have : ((i + 1 : Nat) : Int) = (i : Int) + 1 := by omega
    rw [this]
    unfold rowTD
    rw [map_snoc]
end
theorem rows_T {k : Nat} (b : Bk) (h : List Int) (q : bkOk k b) : rows (k + 1) (h.map D.int) (bkD b) = (rowsT h 0 b).map rowTD := rowsT_eq b h 0 q
/-! ### sound rows -/
theorem nums_bs (x : Bs) : nums (bsD x) = [] := by
  cases x with
  | item => rfl
  | nm x => cases x <;> rfl
theorem nums_pv {x : Pv} (h : pvOk x) : (nums (pvD x)).all okN = true := by
  cases x with
  | bs x => show (nums (bsD x)).all okN = true; rw [nums_bs]; rfl
  | none => rfl
  | «at» k =>
    show (okN (.int k) && true) = true
    simp [okN, h.1, h.2]
theorem nums_vl {x : Vl} (h : vlOk x) : (nums (vlD x)).all okN = true := by
  cases x with
  | pv v => exact nums_pv h
  | copy x =>
    show (numss [bsD x]).all okN = true
    rw [numss_one, nums_bs]
    rfl
theorem nums_t0 {w : Wd} {x y : Pv} (hx : pvOk x) (hy : pvOk y) : (nums (t0D w x y)).all okN = true := by
  have e : nums (t0D w x y) = nums (pvD x) ++ nums (pvD y) := by
    unfold t0D
    rw [nums_op (by cases w <;> decide)]
    simp [numss]
  rw [e, List.all_append, nums_pv hx, nums_pv hy]
  rfl
theorem nums_ts {t : Ts} (h : tsOk t) : (nums (tsD t)).all okN = true := by
  unfold tsD
  split
  · rw [nums_op (by decide), numss_one]
    exact nums_t0 h.1 h.2
  · exact nums_t0 h.1 h.2
theorem nums_sm {k : Nat} {s : Sm} (h : smOk k s) : (numsOf (smD s)).all okN = true := by
  cases s with
  | brk => rfl
  | set x v => unfold smOk at h; exact nums_vl h
  | ifs t y n => unfold smOk at h; exact nums_ts h.1
mutual
theorem rowsS_ok : ∀ {k : Nat} (s : Sm) (p : List Int), smOk k s → ∀ r ∈ rowsS p s, (∃ j, smOk j r.2) ∧ r.1.length ≤ p.length + 2 * k
  | k, .brk, p, h, r, hr => by simp [rowsS] at hr
  | k, .set _ _, p, h, r, hr => by simp [rowsS] at hr
  | k, .ifs t y n, p, h, r, hr => by
    unfold smOk at h
    obtain ⟨h1, j, rfl, h2, h3, h4, h5⟩ := h
    simp only [rowsS, List.mem_append] at hr
    rcases hr with hr | hr
    · have := rowsT_ok y (p ++ [0]) 0 h4 r hr
      refine ⟨this.1, ?_⟩
      have h6 := this.2
      simp at h6
      omega
    · have := rowsT_ok n (p ++ [1]) 0 h5 r hr
      refine ⟨this.1, ?_⟩
      have h6 := this.2
      simp at h6
      omega
theorem rowsT_ok : ∀ {k : Nat} (b : Bk) (h : List Int) (i : Int), bkOk k b → ∀ r ∈ rowsT h i b, (∃ j, smOk j r.2) ∧ r.1.length ≤ h.length + 1 + 2 * k
  | k, .nil, h, i, _, r, hr => by simp [rowsT] at hr
  | k, .cons s b, h, i, q, r, hr => by
    unfold bkOk at q
    simp only [rowsT, List.cons_append, List.mem_cons, List.mem_append] at hr
    rcases hr with rfl | hr | hr
    · exact ⟨⟨k, q.1⟩, by simp⟩
    · have := rowsS_ok s _ q.1 r hr
      refine ⟨this.1, ?_⟩
      have h6 := this.2
      simp at h6
      omega
    · have := rowsT_ok b h (i + 1) q.2 r hr
      exact this
end
/-- a loop that is none of those refused -/
structure Good (b : Bk) : Prop where
  ok : bkOk 2 b
  few : (rowsT [] 0 b).length ≤ 8
mutual
theorem size_rows : ∀ (b : Bk) (h : List Int) (i : Int), bkLen b ≤ (rowsT h i b).length
  | .nil, h, i => by simp [bkLen]
  | .cons s b, h, i => by
    have := size_rows b h (i + 1)
    simp [bkLen, rowsT]
    omega
end
theorem Good.len {b : Bk} (h : Good b) : bkLen b ≤ 8 := Nat.le_trans (size_rows b [] 0) h.few
theorem rws_T {k : Nat} (hk : k ≤ 3) {b : Bk} (h : bkOk k b) : rws (bkD b) = (rowsT [] 0 b).map rowTD := by
  have h3 : bkOk 3 b := by
    match k, hk with
    | 0, _ => exact bkOk_up b (bkOk_up b (bkOk_up b h))
    | 1, _ => exact bkOk_up b (bkOk_up b h)
    | 2, _ => exact bkOk_up b h
    | 3, _ => exact h
  exact rows_T b [] h3
theorem Good.blk {b : Bk} (h : Good b) : Blk (bkD b) := ⟨by rw [bkD_len]; have := h.len; omega, st_bk b (bkOk_up b h.ok)⟩
theorem Good.fault {b : Bk} (h : Good b) : faultOf (rws (bkD b)) = none := by
  rw [rws_T (k := 2) (by omega) h.ok]
  unfold faultOf
  rw [if_neg (by simpa using h.few), Option.map_eq_none_iff, List.find?_eq_none]
  intro r hr
  obtain ⟨q, hq, rfl⟩ := List.mem_map.mp hr
  obtain ⟨⟨j, h1⟩, h2⟩ := rowsT_ok b [] 0 h.ok q hq
  have h3 : soundB (rowTD q).1 (rowTD q).2 = true := by
    unfold soundB
    have e : (numsOf (rowTD q).2).all okN = true := nums_sm h1
    rw [e]
    simp [rowTD]
    simp at h2
    omega
  simp [h3]
/-- a loop that was taken stands at a -/
def LoopT (g : G) (a : Nat) (b : Bk) : Prop := LoopAt g a (bkD b)
theorem mk_good (n : Nat) (f1 : String → String → List D → G → R D) (cu : Option Exn) {b : Bk} (hb : Good b) (g : G) : Ok (make ⟨P, f1, call P (n + 8), cu⟩ "Loop" [.tup (bkD b)] g) fun v g' => v = .ref g.length ∧ Gr g g' ∧ LoopT g' g.length b := by
  have c0 : P.cls "Loop" = true := by rfl
  have h := init_ok n (bkD b) hb.blk g (g ++ [.ins "Loop" []]) (.app _ _) g.length (get_new _ _) (Nat.le_refl _)
  unfold make
  rw [if_pos c0]
  cases hm : call P (n + 8) "Loop" "__init__" [.ref g.length, .tup (bkD b)] (g ++ [.ins "Loop" []]) with
  | bad => rw [hm] at h; exact h.elim
  | exc x g' =>
    rw [hm] at h
    obtain ⟨_, p, h2, _⟩ := h
    rw [hb.fault] at h2
    cases h2
  | ok v g' =>
    rw [hm] at h
    obtain ⟨rfl, h2, _, h3⟩ := h
    show Ok ((call P (n + 8) "Loop" "__init__" [.ref g.length, .tup (bkD b)] (g ++ [.ins "Loop" []])).bind _) _
    rw [hm]
    exact ⟨rfl, h2, h3⟩
end UkW
end
section
set_option Elab.async false
set_option linter.all false
set_option maxRecDepth 100000
set_option autoImplicit false
set_option maxHeartbeats 1000000
namespace UkW
open Uk
open Mac (Wo Th Ot Nm Bs Pv Vl Wd Ts Sm Bk)
/-! ## Blocks as lists of statements -/
def toL : Bk → List Sm
  | .nil => []
  | .cons s b => s :: toL b
def ofL : List Sm → Bk
  | [] => .nil
  | s :: l => .cons s (ofL l)
theorem toL_ofL : ∀ l : List Sm, toL (ofL l) = l
  | [] => rfl
  | s :: l => by simp [ofL, toL, toL_ofL l]
theorem ofL_toL : ∀ b : Bk, ofL (toL b) = b
  | .nil => rfl
  | .cons s b => by simp [ofL, toL, ofL_toL b]
theorem bkD_L : ∀ b : Bk, bkD b = (toL b).map smD
  | .nil => rfl
  | .cons s b => by simp [bkD, toL, bkD_L b]
theorem bkD_ofL (l : List Sm) : bkD (ofL l) = l.map smD := by rw [bkD_L, toL_ofL]
theorem bkLen_L : ∀ b : Bk, bkLen b = (toL b).length
  | .nil => rfl
  | .cons s b => by simp [bkLen, toL, bkLen_L b]
theorem bkOk_L {k : Nat} : ∀ b : Bk, bkOk k b ↔ ∀ s ∈ toL b, smOk k s
  | .nil => by simp [bkOk, toL]
  | .cons s b => by simp [bkOk, toL, bkOk_L b]
theorem bkOk_of {k : Nat} {l : List Sm} (h : ∀ s ∈ l, smOk k s) : bkOk k (ofL l) := (bkOk_L _).mpr (by rw [toL_ofL]; exact h)
theorem rowsT_app : ∀ (l m : List Sm) (h : List Int) (i : Int), rowsT h i (ofL (l ++ m)) = rowsT h i (ofL l) ++ rowsT h (i + l.length) (ofL m)
  | [], m, h, i => by simp [ofL, rowsT]
  | s :: l, m, h, i => by
    have e : i + 1 + (l.length : Int) = i + ((s :: l).length : Int) := by simp; omega
    show ((h ++ [i], s) :: rowsS (h ++ [i]) s ++ rowsT h (i + 1) (ofL (l ++ m))) = ((h ++ [i], s) :: rowsS (h ++ [i]) s ++ rowsT h (i + 1) (ofL l)) ++ _
    rw [rowsT_app l m h (i + 1), e]
    simp
/-- data that stand for statements are a block's -/
theorem bk_of {k : Nat} : ∀ {l : List D}, (∀ x ∈ l, ∃ s, x = smD s ∧ smOk k s) → ∃ b, l = bkD b ∧ bkOk k b
  | [], _ => ⟨.nil, rfl, by unfold bkOk; trivial⟩
  | x :: l, h => by
    obtain ⟨s, rfl, hs⟩ := h x List.mem_cons_self
    obtain ⟨b, rfl, hb⟩ := bk_of fun y hy => h y (List.mem_cons_of_mem _ hy)
    exact ⟨.cons s b, rfl, by unfold bkOk; exact ⟨hs, hb⟩⟩
/-! ## What is drawn -/
theorem Rd.gr {i : Nat} {a b : G} (h : Rd a i) (k : Gr a b) : Rd b i := let ⟨l, e, d⟩ := h; ⟨l, k.get e, d⟩
theorem Fr.set {i p : Nat} {g0 g : G} (h : Fr i g0 g) (hp : g0.length ≤ p) (hi : p ≠ i) (o : O) : Fr i g0 (g.set p o) := by
  refine ⟨by simpa using h.1, fun j o' hj ej => ?_, ?_⟩
  · have hlt := get_lt ej
    exact set_ne (h.2.1 j o' hj ej) (by omega)
  · obtain ⟨l, e, d⟩ := h.2.2
    exact ⟨l, set_ne e (Ne.symm hi), d⟩
theorem Fr.st {i : Nat} {a b : G} (h : Fr i a b) : Rd b i := h.2.2
theorem fn_val : P.fn "" "_law_val" = some d__law_val := by rfl
theorem fn_test : P.fn "" "_law_test" = some d__law_test := by rfl
theorem fn_lstatement : P.fn "" "_law_statement" = some d__law_statement := by rfl
theorem fn_lblock : P.fn "" "_law_block" = some d__law_block := by rfl
/-- a new list, then a pick from it -/
theorem pick_new (n : Nat) (g : G) (i : Nat) (xs : List D) (hx : 0 < xs.length) (hx2 : xs.length < 1000) (h : Rd g i) : Ok (call P (n + 2) "" "_law_pick" [.ref i, .ref g.length] (g ++ [.lst xs])) (fun v g' => Fr i g g' ∧ v ∈ xs) := by
  have hb : xs.length < 1073741824 := Nat.lt_trans hx2 (by decide)
  have hne : g.length ≠ i := Nat.ne_of_gt (Fr.lt h)
  have hr : Rd (g ++ [.lst xs]) i := h.gr (.app g [.lst xs])
  have hp := pick n (g ++ [.lst xs]) i g.length xs hx hb hr (get_new g (.lst xs)) hne
  exact hp.mono fun v g' q => ⟨(Fr.gr h (.app g [.lst xs])).trans q.1, q.2.2⟩
def PvR (v : D) : Prop := ∃ p, v = pvD p ∧ pvOk p
theorem val_ok (n : Nat) (g : G) (i : Nat) (h : Rd g i) : Ok (call P (n + 3) "" "_law_val" [.ref i] g) fun v g' => Fr i g g' ∧ PvR v := by
  refine body_run (n := n + 2) fn_val rfl ?_
  generalize hcs : ([.tup [.str "item"], .tup [.str "item"], .tup [.str "a"], .tup [.str "a"], .tup [.str "b"], .tup [.str "none"], .tup [.str "at", .int 1]] : List D) = cs
  have hl7 : cs.length = 7 := by rw [← hcs]; rfl
  have hp : ∀ x, x ∈ cs → PvR x := by
    rw [← hcs]
    intro x hx
    simp at hx
    rcases hx with rfl | rfl | rfl | rfl | rfl
    · exact ⟨.bs .item, rfl, trivial⟩
    · exact ⟨.bs (.nm .a), rfl, trivial⟩
    · exact ⟨.bs (.nm .b), rfl, trivial⟩
    · exact ⟨.none, rfl, trivial⟩
    · exact ⟨.at 1, rfl, by decide, by decide⟩
  obtain ⟨v, g1, e1, f1, l1, t, rfl, h0, h1⟩ := (draw (n + 1) (g ++ [.lst cs]) i 4 (by omega) (by omega) (h.gr (.app _ _))).to
  have f0 : Fr i g (g ++ [.lst cs]) := Fr.gr h (.app _ _)
  have hne : g.length ≠ i := Nat.ne_of_gt (Fr.lt h)
  have c1 := f1.2.1 _ _ hne (get_new g (.lst cs))
  obtain ⟨gn, hgn⟩ : ∃ x : G, x = g1 ++ [O.lst [D.tup [.str "at", .int t]]] := ⟨_, rfl⟩
  have gr1 : Gr g1 gn := ⟨_, hgn⟩
  have gN := gr1.get c1
  have gn1 : gn[g1.length]? = some (.lst [D.tup [.str "at", .int t]]) := by rw [hgn]; exact get_new _ _
  have hA := add_ref gN gn1
  have hL : newL (cs ++ [D.tup [.str "at", .int t]]) gn = .ok (.ref gn.length) (gn ++ [.lst (cs ++ [D.tup [.str "at", .int t]])]) := newL_ok (by simp [hl7]) _
  have r1 : Rd gn i := f1.2.2.gr gr1
  obtain ⟨w, g2, e2, f2, hw⟩ := (pick_new n gn i (cs ++ [D.tup [.str "at", .int t]]) (by simp) (by simp [hl7]) r1).to
  have h7 : newL ([.tup [.str "item"], .tup [.str "item"], .tup [.str "a"], .tup [.str "a"], .tup [.str "b"], .tup [.str "none"], .tup [.str "at", .int 1]] : List D) g = .ok (.ref g.length) (g ++ [.lst cs]) := by
    rw [hcs]
    exact newL_ok (by rw [hl7]; decide) _
  rw [hL] at hA
  refine Ok.mono (Q := fun z g' => z.2 = .rt w ∧ g' = g2) ?_ ?_
  · simp [d__law_val, exs, exe, ev, evs, h7, e1, ← hgn, hA, e2]
  · rintro ⟨e, f⟩ _ ⟨hz, rfl⟩
    have hz : f = .rt w := hz
    subst hz
    refine ⟨(f0.trans f1).trans ((Fr.gr f1.2.2 gr1).trans f2), ?_⟩
    rcases List.mem_append.mp hw with hw | hw
    · exact hp w hw
    · rw [List.mem_singleton.mp hw]
      exact ⟨.at t, rfl, h0, by omega⟩
theorem test_ok (n : Nat) (g : G) (i : Nat) (h : Rd g i) : Ok (call P (n + 4) "" "_law_test" [.ref i] g) fun v g' => Fr i g g' ∧ ∃ t, v = tsD t ∧ tsOk t := by
  refine body_run (n := n + 3) fn_test rfl ?_
  generalize hcs : ([.str "same", .str "like", .str "in", .str "less", .str "in", .str "like"] : List D) = cs
  have hl6 : cs.length = 6 := by rw [← hcs]; rfl
  obtain ⟨w, g1, e1, f1, hw⟩ := (pick_new (n + 1) g i cs (by omega) (by omega) h).to
  obtain ⟨v1, g2, e2, f2, p1, rfl, hv1⟩ := (val_ok n g1 i f1.st).to
  obtain ⟨v2, g3, e3, f3, p2, rfl, hv2⟩ := (val_ok n g2 i f2.st).to
  obtain ⟨v, g4, e4, f4, l4, t, rfl, h0, h1⟩ := (draw (n + 2) g3 i 4 (by omega) (by omega) f3.st).to
  have h6 : newL ([.str "same", .str "like", .str "in", .str "less", .str "in", .str "like"] : List D) g = .ok (.ref g.length) (g ++ [.lst cs]) := by
    rw [hcs]
    exact newL_ok (by rw [hl6]; decide) _
  have fr := ((f1.trans f2).trans f3).trans f4
  have hws : ∃ u : Wd, w = .str (wdS u) := by
    rw [← hcs] at hw
    simp at hw
    rcases hw with rfl | rfl | rfl | rfl | rfl | rfl
    · exact ⟨.same, rfl⟩
    · exact ⟨.alike, rfl⟩
    · exact ⟨.in_, rfl⟩
    · exact ⟨.below, rfl⟩
    · exact ⟨.in_, rfl⟩
    · exact ⟨.alike, rfl⟩
  obtain ⟨u, rfl⟩ := hws
  generalize hu : wdS u = ws at e1
  by_cases ht : t = 0
  · refine Ok.mono (Q := fun z g' => z.2 = .rt (.tup [.str "not", .tup [.str ws, pvD p1, pvD p2]]) ∧ g' = g4) ?_ ?_
    · simp [d__law_test, exs, exe, ev, evs, h6, e1, e2, e3, e4, ht]
    · rintro ⟨e, f⟩ _ ⟨hz, rfl⟩
      have hz : f = _ := hz
      subst hz
      exact ⟨fr, ⟨true, u, p1, p2⟩, by rw [← hu]; rfl, hv1, hv2⟩
  · refine Ok.mono (Q := fun z g' => z.2 = .rt (.tup [.str ws, pvD p1, pvD p2]) ∧ g' = g4) ?_ ?_
    · simp [d__law_test, exs, exe, ev, evs, h6, e1, e2, e3, e4, ht]
    · rintro ⟨e, f⟩ _ ⟨hz, rfl⟩
      have hz : f = _ := hz
      subst hz
      exact ⟨fr, ⟨false, u, p1, p2⟩, by rw [← hu]; rfl, hv1, hv2⟩
/-- a drawn block -/
def BlkR (m cap : Nat) (v : D) : Prop := ∃ b, v = .tup (bkD b) ∧ bkLen b ≤ cap ∧ bkOk m b
theorem block_of (m : Nat) (hm : m ≤ 2) (n : Nat) (deep : Int) (hs : ∀ (g : G) (i : Nat), Rd g i → Ok (call P (n + 2) "" "_law_statement" [.ref i, .int deep] g) fun v g' => Fr i g g' ∧ ∃ s, v = smD s ∧ smOk m s) (cap : Nat) (hc : cap < 100) (g : G) (i : Nat) (h : Rd g i) :
    Ok (call P (n + 3) "" "_law_block" [.ref i, .int deep, .int cap] g) fun v g' => Fr i g g' ∧ BlkR m cap v := by
  refine body_run (n := n + 2) fn_lblock rfl ?_
  obtain ⟨v, g1, e1, f1, l1, t, rfl, h0, h1⟩ := (draw (n + 1) g i (cap + 1) (by omega) (by omega) h).to
  obtain ⟨c, rfl⟩ : ∃ c : Nat, t = (c : Int) := ⟨t.toNat, by omega⟩
  have hr : rng1 (.int (c : Int)) = some (c, .rng 0 1) := rng1_ok _ (by omega)
  simp [d__law_block, exs, exe, ev, evs, evI, e1, hr]
  have hpi : g1.length ≠ i := Nat.ne_of_gt (Fr.lt f1.st)
  refine Ok.mono (comp_inv (fun k acc g' => acc.length = k ∧ Fr i g1 g' ∧ ∀ s, s ∈ acc → ∃ t, s = smD t ∧ smOk m t) ?step ?stop _ _ [] _ (by simp) ⟨rfl, Fr.gr f1.st (.app _ _), by simp⟩ (get_new _ _)) ?fin
  case stop => exact fun acc g' _ => item_rng_end g'
  case step =>
    rintro k acc g2 hk ⟨hl, f2, ha⟩ hp
    refine ⟨_, item_rng hk g2, ?_⟩
    obtain ⟨v, g3, e3, f3, hv⟩ := (hs g2 i f2.st).to
    simp [bindT, Uk.wipe, e3]
    have hp3 := f3.2.1 _ _ hpi hp
    refine ⟨hp3, by omega, hl, (f2.trans f3).set (Nat.le_refl _) hpi _, ?_⟩
    rintro s (hs' | rfl)
    · exact ha s hs'
    · exact hv
  case fin =>
    rintro _ g2 ⟨acc, ⟨hl, f2, ha⟩, hp⟩
    have ht : builtin ⟨P, call P (n + 2), call P (n + 1), none⟩ .tuple [.ref g1.length] g2 = .ok (.tup acc) g2 := by
      show orElse (lsOf g2 g1.length) (fun xs => newT xs g2) = _
      rw [lsOf_eq hp, orElse_some, newT_ok (by simp; omega)]
    simp [ht]
    obtain ⟨b, rfl, hb⟩ := bk_of ha
    exact ⟨f1.trans f2, b, rfl, by rw [← bkD_len]; omega, hb⟩
theorem statement_of (m : Nat) (hm : m ≤ 2) (n : Nat) (hb : ∀ m', m = m' + 1 → ∀ (g : G) (i : Nat), Rd g i → Ok (call P (n + 5) "" "_law_block" [.ref i, .int (2 - (m' : Int)), .int 2] g) fun v g' => Fr i g g' ∧ BlkR m' 2 v) (g : G) (i : Nat) (h : Rd g i) :
    Ok (call P (n + 6) "" "_law_statement" [.ref i, .int (2 - (m : Int))] g) fun v g' => Fr i g g' ∧ ∃ s, v = smD s ∧ smOk m s := by
  refine body_run (n := n + 5) fn_lstatement rfl ?_
  obtain ⟨v, g1, e1, f1, _, t, rfl, h0, h1⟩ := (draw (n + 4) g i 10 (by omega) (by omega) h).to
  by_cases ht : t = 0
  · subst ht
    refine Ok.mono (Q := fun z g' => z.2 = .rt (.tup [.str "break"]) ∧ g' = g1) ?_ ?_
    · simp [d__law_statement, exs, exe, ev, evs, e1]
    · rintro ⟨e, f⟩ _ ⟨hz, rfl⟩
      have hz : f = _ := hz
      subst hz
      exact ⟨f1, .brk, rfl, by unfold smOk; trivial⟩
  · by_cases hset : t < 5 ∨ m = 0
    · -- a set
      obtain ⟨v1, g2, e2, f2, p1, rfl, hv1⟩ := (val_ok (n + 2) g1 i f1.st).to
      obtain ⟨v, g3, e3, f3, _, t2, rfl, _, _⟩ := (draw (n + 4) g2 i 5 (by omega) (by omega) f2.st).to
      have hor : t < 5 ∨ ¬ t < 5 ∧ (m : Int) = 0 := by omega
      -- behind the value
      have tail : ∀ (g4 : G) (v2 : Vl), Fr i g g4 → vlOk v2 → ∃ g5 x, call P (n + 5) "" "_law_pick" [.ref i, .ref g4.length] (g4 ++ [.lst [.str "a", .str "a", .str "b"]]) = .ok (.str (nmS x)) g5 ∧ Fr i g g5 ∧ smOk m (.set x v2) := by
        intro g4 v2 hf hv2
        obtain ⟨w, g5, e5, f5, hw⟩ := (pick_new (n + 3) g4 i [.str "a", .str "a", .str "b"] (by simp) (by simp) hf.st).to
        have hx : ∃ x : Nm, w = .str (nmS x) := by
          simp at hw
          rcases hw with rfl | rfl
          · exact ⟨.a, rfl⟩
          · exact ⟨.b, rfl⟩
        obtain ⟨x, rfl⟩ := hx
        exact ⟨g5, x, e5, hf.trans f5, by unfold smOk; exact hv2⟩
      by_cases ht2 : t2 = 0
      · obtain ⟨w, g4, e4, f4, hw⟩ := (pick_new (n + 3) g3 i [.tup [.str "item"], .tup [.str "a"], .tup [.str "b"]] (by simp) (by simp) f3.st).to
        have hpw : ∃ x : Bs, w = bsD x := by
          simp at hw
          rcases hw with rfl | rfl | rfl
          · exact ⟨.item, rfl⟩
          · exact ⟨.nm .a, rfl⟩
          · exact ⟨.nm .b, rfl⟩
        obtain ⟨y, rfl⟩ := hpw
        obtain ⟨g5, x, e5, f5, hst⟩ := tail g4 (.copy y) (((f1.trans f2).trans f3).trans f4) trivial
        refine Ok.mono (Q := fun z g' => z.2 = .rt (.tup [.str "set", .str (nmS x), .tup [.str "copy", bsD y]]) ∧ g' = g5) ?_ ?_
        · rcases hor with hlt | ⟨hlt, hm0⟩
          · simp [d__law_statement, exs, exe, ev, evs, e1, ht, hlt, e2, e3, ht2, e4, e5]
          · simp [d__law_statement, exs, exe, ev, evs, e1, ht, hlt, hm0, e2, e3, ht2, e4, e5]
        · rintro ⟨e, f⟩ _ ⟨hz, rfl⟩
          have hz : f = _ := hz
          subst hz
          exact ⟨f5, _, rfl, hst⟩
      · obtain ⟨g5, x, e5, f5, hst⟩ := tail g3 (.pv p1) ((f1.trans f2).trans f3) hv1
        refine Ok.mono (Q := fun z g' => z.2 = .rt (.tup [.str "set", .str (nmS x), pvD p1]) ∧ g' = g5) ?_ ?_
        · rcases hor with hlt | ⟨hlt, hm0⟩
          · simp [d__law_statement, exs, exe, ev, evs, e1, ht, hlt, e2, e3, ht2, e5]
          · simp [d__law_statement, exs, exe, ev, evs, e1, ht, hlt, hm0, e2, e3, ht2, e5]
        · rintro ⟨e, f⟩ _ ⟨hz, rfl⟩
          have hz : f = _ := hz
          subst hz
          exact ⟨f5, _, rfl, hst⟩
    · -- an if
      obtain ⟨m', rfl⟩ : ∃ m', m = m' + 1 := ⟨m - 1, by omega⟩
      have hlt : ¬ t < 5 := by omega
      have hne : ¬ (2 - ((m' : Int) + 1) = 2) := by omega
      obtain ⟨v1, g2, e2, f2, t1, rfl, hv1⟩ := (test_ok (n + 1) g1 i f1.st).to
      obtain ⟨_, g3, e3, f3, b1, rfl, l1, s1⟩ := (hb m' rfl g2 i f2.st).to
      obtain ⟨_, g4, e4, f4, b2, rfl, l2, s2⟩ := (hb m' rfl g3 i f3.st).to
      have ed : (2 - ((m' : Int) + 1)) + 1 = 2 - (m' : Int) := by omega
      refine Ok.mono (Q := fun z g' => z.2 = .rt (.tup [.str "if", tsD t1, .tup (bkD b1), .tup (bkD b2)]) ∧ g' = g4) ?_ ?_
      · simp [d__law_statement, exs, exe, ev, evs, e1, ht, hlt, hne, e2, ed, e3, e4]
      · rintro ⟨e, f⟩ _ ⟨hz, rfl⟩
        have hz : f = _ := hz
        subst hz
        exact ⟨(((f1.trans f2).trans f3).trans f4), .ifs t1 b1 b2, rfl, by unfold smOk; exact ⟨hv1, m', rfl, by omega, by omega, s1, s2⟩⟩
theorem block_ok : ∀ (m : Nat), m ≤ 2 → ∀ (n cap : Nat), cap < 100 → ∀ (g : G) (i : Nat), Rd g i → Ok (call P (n + 4 * m + 7) "" "_law_block" [.ref i, .int (2 - (m : Int)), .int cap] g) fun v g' => Fr i g g' ∧ BlkR m cap v := by
  intro m
  induction m with
  | zero =>
    intro hm n cap hc g i h
    exact block_of 0 hm (n + 4) _ (fun g i h => statement_of 0 hm n (fun m' e => by omega) g i h) cap hc g i h
  | succ m ih =>
    intro hm n cap hc g i h
    refine block_of (m + 1) hm (n + 4 * (m + 1) + 4) _ (fun g i h => ?_) cap hc g i h
    refine statement_of (m + 1) hm (n + 4 * (m + 1)) (fun m' e g i h => ?_) g i h
    obtain rfl : m' = m := by omega
    have := ih (by omega) (n + 2) 2 (by omega) g i h
    rw [show n + 4 * (m' + 1) + 5 = n + 2 + 4 * m' + 7 from by omega]
    exact this
end UkW
end
section
set_option Elab.async false
set_option linter.all false
set_option maxRecDepth 100000
set_option autoImplicit false
set_option maxHeartbeats 1000000
namespace UkW
open Uk
open Mac (Wo Th Ot Nm Bs Pv Vl Wd Ts Sm Bk)
/-! ## The seed -/
theorem pow_ten (g : G) : binop .pow (.int 10) (.int 18) g = .ok (.int 1000000000000000000) g := by
  have h : (0 : Int) ≤ 18 ∧ (18 : Int) ≤ 1000000 ∧ (10 : Int).natAbs < 2 ^ 64 := by decide
  show (if (0 : Int) ≤ 18 ∧ (18 : Int) ≤ 1000000 ∧ (10 : Int).natAbs < 2 ^ 64 then R.ok (D.int (10 ^ (18 : Int).toNat)) g else .bad) = _
  rw [if_pos h]
  rfl
theorem abs_int (c : Cx) (i : Int) (g : G) : builtin c .abs [.int i] g = .ok (.int (if i < 0 then -i else i)) g := rfl
theorem int_int (c : Cx) (i : Int) (g : G) : builtin c .int [.int i] g = .ok (.int i) g := rfl
theorem mod_m (i : Int) (g : G) : binop .mod (.int i) (.int 2147483647) g = .ok (.int (i % 2147483647)) g := mod_pos _ _ _ (by decide)
theorem comp_fm2 {w : Wk} {turn : D → G → R (Option D)} (g0 : G) {g1 : G} {p : Nat} (hp : p = g0.length) (hg : g1 = g0 ++ [.lst []]) {xs : List D} {n : Nat} (f : D → Option D) (hn : n = xs.length) (hw : ∀ g', Gr g0 g' → ∀ i, w.item n i g' = some xs[i]?) (hl : xs.length ≤ line)
    (ht : ∀ x, x ∈ xs → ∀ g', Gr g0 g' → Ok (turn x g') fun z g'' => z = f x ∧ Gr g' g'') : Ok (compL w n p turn n 0 g1) fun _ g' => Gr g0 g' ∧ g'[g0.length]? = some (.lst (xs.filterMap f)) := by
  subst hp hg
  exact comp_fm f hn hw hl ht
theorem big_cells (T : Int) (ns : List Int) : ∃ r : List Int, (ns.map D.int).filterMap (fun x => match x with
            | .int q => if T ≤ q then some (.int q) else none
            | _ => none) = r.map D.int ∧ r.length ≤ ns.length := ⟨ns.filter fun q => decide (T ≤ q), by
          induction ns with
          | nil => rfl
          | cons q ns ih =>
            by_cases hq : T ≤ q
            · simp [hq]
              simpa using ih
            · simp [hq]
              simpa using ih, List.length_filter_le _ _⟩
theorem random_ok (salt : Int) (n : Nat) (ns : List Int) (hn : ns.length ≤ 100) (g : G) : Ok (call P (n + 1) "" "_law_random" [.fro (ns.map D.int), .int salt] g) fun v g' => ∃ i, v = .ref i ∧ Rd g' i := by
  refine body_run fn_random rfl ?_
  generalize hM : (2147483647 : Int) = M
  have hmod : ∀ (i : Int) (g : G), binop .mod (.int i) (.int M) g = .ok (.int (i % M)) g := fun i g => mod_pos _ _ _ (by omega)
  have hb : d__law_random.body = (.c (.asg 2 (.loc 1))
 (.c (.for_ (.one 3) (.seq (.loc 0)) (.c (.asg 2 (.bin .mod (.bi .int (.c (.bin .add (.bin .mul (.loc 2) (.cst (.int 31))) (.bi .abs (.c (.loc 3) .n))) .n)) (.cst (.int M))))
 .n))
 (.c (.ret (.bin .add (.lst (.c (.loc 2) (.c (.cst (.int 0)) .n))) (.comp [3] (.loc 3) (.one 3) (.seq (.loc 0)) (.cmp .ge (.loc 3) (.bin .pow (.cst (.int 10)) (.cst (.int 18)))))))
 .n))) := by
    rw [← hM]
    rfl
  rw [hb]
  have hN : d__law_random.N.length = 4 := rfl
  rw [hN]
  simp [exs, exe, ev, evs, evI, walkOf]
  refine Ok.mono (for_inv (fun i δ g' => (∃ (s : Int) (x3 : Option D), δ = [some (D.fro (ns.map D.int)), some (.int salt), some (.int s), x3]) ∧ g' = g) (fun _ _ => False) ?step ?stop ns.length 0 _ _ (by simp) ⟨⟨_, _, rfl⟩, rfl⟩) ?fin
  case stop =>
    rintro δ g' _
    simp [Wk.item]
  case step =>
    rintro i _ _ hi ⟨⟨s, x3, rfl⟩, rfl⟩
    refine ⟨.int ns[i], [some (D.fro (ns.map D.int)), some (.int salt), some (.int s), some (.int ns[i])], ?_, rfl, ?_⟩
    · simp [Wk.item, hi]
    · simp [exs, exe, ev, evs, mul31, abs_int, int_int, hmod]
  case fin =>
    intro z g' hz
    obtain ⟨e, f⟩ := z
    cases f with
    | rt d => exact hz.elim
    | nx =>
      obtain ⟨⟨s, x3, rfl⟩, rfl⟩ := hz
      simp
      generalize hT : (1000000000000000000 : Int) = T
      refine Ok.mono (comp_fm2 (g' ++ [.lst [.int s, .int 0]]) (by simp) (by simp) (xs := ns.map D.int) (fun x => match x with
        | .int q => if T ≤ q then some (.int q) else none
        | _ => none) (by simp) items_fro (by simp; omega) fun x hxm g2 hg2 => ?_) fun _ g2 ⟨h1, h2⟩ => ?_
      · obtain ⟨q, hq, rfl⟩ := List.mem_map.mp hxm
        by_cases hT2 : T ≤ q
        · simp [bindT, Uk.wipe, pow_ten, hT, hT2]; exact .refl _
        · simp [bindT, Uk.wipe, pow_ten, hT, hT2]; exact .refl _
      · have h3 := h1.get (get_new g' (.lst [.int s, .int 0]))
        have e := big_cells T ns
        obtain ⟨r, e1, e2⟩ := e
        rw [e1] at h2
        have e4 : (g' ++ [O.lst [D.int s, D.int 0]]).length = g'.length + 1 := by simp
        rw [e4] at h2
        have hL : newL ([D.int s, D.int 0] ++ r.map D.int) g2 = .ok (.ref g2.length) (g2 ++ [.lst ([D.int s, D.int 0] ++ r.map D.int)]) := newL_ok (by simp; omega) _
        have hA := add_ref h3 h2
        rw [hL] at hA
        simp [hA]
        exact ⟨_, get_new _ _, s, 0, r, rfl⟩
/-! ## whiles -/
theorem while_inv {test : Env → G → R D} {body : Env → G → RS} {Q : Env × Fl → G → Prop} (I : Env → G → Prop) (μ : Env → G → Nat)
    (step : ∀ δ g, I δ g → Ok (test δ g) fun v g' => (v = .bl false ∧ Q (δ, .nx) g') ∨ (v = .bl true ∧ Ok (body δ g') fun z g'' => match z.2 with
      | .nx => I z.1 g'' ∧ μ z.1 g'' < μ δ g
      | .rt _ => Q z g'')) : ∀ (k : Nat) (δ : Env) (g : G), μ δ g < k → I δ g → Ok (whileL test body k δ g) Q
  | 0, δ, g, h, _ => by omega
  | k + 1, δ, g, h, hI => by
    unfold whileL
    rw [Ok_bind]
    refine (step δ g hI).mono fun v g' q => ?_
    rcases q with ⟨rfl, q⟩ | ⟨rfl, q⟩
    · exact q
    · dsimp only
      rw [Ok_bind]
      refine q.mono fun z g'' hz => ?_
      obtain ⟨e, f⟩ := z
      cases f with
      | nx => exact while_inv I μ step k e g'' (by have q : μ e g'' < μ δ g := hz.2; omega) hz.1
      | rt d => exact hz
end UkW
end
section
set_option autoImplicit false
set_option maxRecDepth 100000
namespace Uk
/-! ## Texts as lists of signs -/
abbrev Cs := List Char
def T (a : Cs) : String := String.ofList a
theorem T_list (a : Cs) : (T a).toList = a := String.toList_ofList
theorem T_inj {a b : Cs} : T a = T b ↔ a = b := ⟨fun h => by rw [← T_list a, h, T_list], fun h => by rw [h]⟩
theorem T_of (s : String) : T s.toList = s := String.toList_inj.mp (T_list _)
theorem T_app (a b : Cs) : T a ++ T b = T (a ++ b) := String.toList_inj.mp (by rw [String.toList_append, T_list, T_list, T_list])
theorem T_len (a : Cs) : (T a).length = a.length := by rw [← String.length_toList, T_list]
theorem T_beq (a b : Cs) : (T a == T b) = decide (a = b) := by
  by_cases h : a = b
  · subst h; simp
  · rw [decide_eq_false h]
    exact beq_eq_false_iff_ne.mpr fun e => h (T_inj.mp e)
theorem T_cut (a : Cs) (lo hi : Option Int) : cutT (T a) lo hi = T (cutL a (sIxE a.length 0 lo) (sIxE a.length a.length hi)) := by
  unfold cutT
  rw [T_list, T_len]
  try rfl
theorem T_spl (a b : Cs) : splT (T a) (T b) = (splL b 0 [] a).map T := by
  unfold splT
  rw [T_list, T_list]
  try rfl
theorem map_list (l : List Cs) : (l.map T).map String.toList = l := by
  rw [List.map_map]
  conv => rhs; rw [← List.map_id l]
  exact List.map_congr_left fun a _ => T_list a
theorem T_join (a : Cs) (l : List Cs) : joinT (T a) (l.map T) = T (joinL' a l) := by
  unfold joinT
  rw [T_list, map_list]
  try rfl
def dgC (n : Nat) : Cs := [Char.ofNat (48 + n)]
def rdDig (a : Cs) : Option Nat := (List.range 10).find? fun n => decide (a = dgC n)
theorem dg_text : ∀ n, n < 10 → toString ((n : Nat) : Int) = T (dgC n)
  | 0, _ => rfl
  | 1, _ => rfl
  | 2, _ => rfl
  | 3, _ => rfl
  | 4, _ => rfl
  | 5, _ => rfl
  | 6, _ => rfl
  | 7, _ => rfl
  | 8, _ => rfl
  | 9, _ => rfl
  | n + 10, h => absurd h (by omega)
theorem find_congr {α : Type} {p q : α → Bool} : ∀ {l : List α}, (∀ x ∈ l, p x = q x) → l.find? p = l.find? q
  | [], _ => rfl
  | x :: l, h => by
    rw [List.find?_cons, List.find?_cons, h x (List.mem_cons_self ..), find_congr fun y hy => h y (List.mem_cons_of_mem _ hy)]
theorem T_dig (a : Cs) : digT (T a) = rdDig a := by
  unfold digT rdDig
  refine find_congr fun n hn => ?_
  rw [dg_text n (List.mem_range.mp hn), T_beq]
theorem digits_eq : ("0123456789" : String) = T ['0', '1', '2', '3', '4', '5', '6', '7', '8', '9'] := rfl
theorem T_sgn (c : Char) : sgnIn (T [c]) "0123456789" = some (rdDig [c]).isSome := by
  unfold sgnIn
  rw [digits_eq, T_list, T_list]
  have : rdDig [c] = (List.range 10).find? fun n => decide (c = Char.ofNat (48 + n)) := by
    unfold rdDig
    refine find_congr fun n _ => ?_
    simp [dgC]
  rw [this]
  refine congrArg some ?_
  rw [Bool.eq_iff_iff, List.contains_iff_mem, List.find?_isSome]
  constructor
  · intro h
    simp only [List.mem_cons, List.not_mem_nil, or_false] at h
    rcases h with h | h | h | h | h | h | h | h | h | h <;> subst h
    · exact ⟨0, by decide, by decide⟩
    · exact ⟨1, by decide, by decide⟩
    · exact ⟨2, by decide, by decide⟩
    · exact ⟨3, by decide, by decide⟩
    · exact ⟨4, by decide, by decide⟩
    · exact ⟨5, by decide, by decide⟩
    · exact ⟨6, by decide, by decide⟩
    · exact ⟨7, by decide, by decide⟩
    · exact ⟨8, by decide, by decide⟩
    · exact ⟨9, by decide, by decide⟩
  · rintro ⟨n, hn, h⟩
    have hn := List.mem_range.mp hn
    have h := of_decide_eq_true h
    subst h
    have : n = 0 ∨ n = 1 ∨ n = 2 ∨ n = 3 ∨ n = 4 ∨ n = 5 ∨ n = 6 ∨ n = 7 ∨ n = 8 ∨ n = 9 := by omega
    rcases this with h | h | h | h | h | h | h | h | h | h <;> subst h <;> decide
end Uk
end
section
set_option autoImplicit false
set_option maxRecDepth 100000
namespace Uk
open Mac (Nm Bs Pv Vl Wd Ts Sm Bk)
/-! ## Written loops -/
def cItem : Cs := ['i', 't', 'e', 'm']
def cNone : Cs := ['N', 'o', 'n', 'e']
def cCopy : Cs := ['c', 'o', 'p', 'y', '(']
def cBreak : Cs := ['b', 'r', 'e', 'a', 'k']
def cPass : Cs := ['p', 'a', 's', 's']
def cElse : Cs := ['e', 'l', 's', 'e', ':']
def cFor : Cs := ['f', 'o', 'r', ' ', 'i', 't', 'e', 'm', ' ', 'i', 'n', ' ', 'i', 't', 'e', 'm', 's', ':']
def cIf : Cs := ['i', 'f', ' ']
def cNot : Cs := ['n', 'o', 't', ' ']
def cSet : Cs := [' ', '=', ' ']
def nmC : Nm → Cs
  | .a => ['a']
  | .b => ['b']
def bsC : Bs → Cs
  | .item => cItem
  | .nm x => nmC x
def pvC : Pv → Cs
  | .bs x => bsC x
  | .none => cNone
  | .at k => dgC k.toNat
def vlC : Vl → Cs
  | .pv p => pvC p
  | .copy x => cCopy ++ bsC x ++ [')']
def wdC : Wd → Cs
  | .same => [' ', 'i', 's', ' ']
  | .alike => [' ', '=', '=', ' ']
  | .in_ => [' ', 'i', 'n', ' ', '[']
  | .below => [' ', '<', ' ']
def endC : Wd → Cs
  | .in_ => [']']
  | _ => []
def t0C (w : Wd) (x y : Pv) : Cs := pvC x ++ wdC w ++ pvC y ++ endC w
def tsC (t : Ts) : Cs := (if t.neg then cNot else []) ++ t0C t.w t.x t.y
def hdC : Sm → Cs
  | .brk => cBreak
  | .set x v => nmC x ++ cSet ++ vlC v
  | .ifs t _ _ => cIf ++ tsC t ++ [':']
/-! ## Read back -/
def cutC (a : Cs) (lo hi : Option Int) : Cs := cutL a (sIxE a.length 0 lo) (sIxE a.length a.length hi)
def rdBs (a : Cs) : Option Bs := if a = cItem then some .item else if a = ['a'] then some (.nm .a) else if a = ['b'] then some (.nm .b) else none
def rdPv (a : Cs) : Option Pv := match rdBs a with
  | some x => some (.bs x)
  | none => if a = cNone then some .none else (rdDig a).map fun n => .at (n : Int)
def isCopy (a : Cs) : Bool := decide (cutC a none (some 5) = cCopy) && decide (cutC a (some (-1)) none = [')'])
def rdVl (a : Cs) : Option Vl := if isCopy a then (rdBs (cutC a (some 5) (some (-1)))).map .copy else (rdPv a).map .pv
/-- how a word parts a text -/
def tryW (w : Wd) (a : Cs) : Option (Option (Wd × Pv × Pv)) := match splL (wdC w) 0 [] a with
  | [x, y] => if w ≠ .in_ ∨ cutC y (some (-1)) none = [']'] then some (match rdPv x, rdPv (if w = .in_ then cutC y none (some (-1)) else y) with
    | some p, some q => some (w, p, q)
    | _, _ => none) else none
  | _ => none
def words : List Wd := [.same, .alike, .in_, .below]
def rdT0 (a : Cs) : List Wd → Option (Wd × Pv × Pv)
  | [] => none
  | w :: ws => match tryW w a with
    | some r => r
    | none => rdT0 a ws
def isNot (a : Cs) : Bool := decide (cutC a none (some 4) = cNot)
def rdTs (a : Cs) : Option Ts := (rdT0 (if isNot a then cutC a (some 4) none else a) words).map fun z => ⟨isNot a, z.1, z.2.1, z.2.2⟩
inductive Hd where | brk | set (x : Nm) (v : Vl) | ifs (t : Ts)
  deriving DecidableEq, Repr
def isIfC (a : Cs) : Bool := decide (cutC a none (some 3) = cIf) && decide (cutC a (some (-1)) none = [':'])
def rdNm (a : Cs) : Option Nm := if a = ['a'] then some .a else if a = ['b'] then some .b else none
def rdHd (a : Cs) : Option Hd := if a = cBreak then some .brk else if isIfC a then (rdTs (cutC a (some 3) (some (-1)))).map .ifs else match splL cSet 0 [] a with
  | [x, y] => match rdNm x, rdVl y with
    | some n, some v => some (.set n v)
    | _, _ => none
  | _ => none
def hdOf : Sm → Hd
  | .brk => .brk
  | .set x v => .set x v
  | .ifs t _ _ => .ifs t
/-! ## What is written is read -/
def pvDg : Pv → Prop
  | .at k => 0 ≤ k ∧ k ≤ 9
  | _ => True
def vlDg : Vl → Prop
  | .pv p => pvDg p
  | _ => True
def hdDg : Sm → Prop
  | .brk => True
  | .set _ v => vlDg v
  | .ifs t _ _ => pvDg t.x ∧ pvDg t.y
def allPv : List Pv := [.bs .item, .bs (.nm .a), .bs (.nm .b), .none, .at 0, .at 1, .at 2, .at 3, .at 4, .at 5, .at 6, .at 7, .at 8, .at 9]
theorem mem_allPv {p : Pv} (h : pvDg p) : p ∈ allPv := by
  cases p with
  | bs x => cases x with
    | item => decide
    | nm n => cases n <;> decide
  | none => decide
  | «at» k =>
    obtain ⟨h1, h2⟩ := h
    have : k = 0 ∨ k = 1 ∨ k = 2 ∨ k = 3 ∨ k = 4 ∨ k = 5 ∨ k = 6 ∨ k = 7 ∨ k = 8 ∨ k = 9 := by omega
    rcases this with h | h | h | h | h | h | h | h | h | h <;> subst h <;> decide
def chk1 : Bool := allPv.all fun x => allPv.all fun y => words.all fun w => [true, false].all fun n => decide (rdHd (cIf ++ tsC ⟨n, w, x, y⟩ ++ [':']) = some (.ifs ⟨n, w, x, y⟩))
theorem chk1_ok : chk1 = true := by decide +kernel
def chk2 : Bool := [Nm.a, Nm.b].all fun n => (allPv.all fun x => decide (rdHd (nmC n ++ cSet ++ pvC x) = some (.set n (.pv x)))) && [Bs.item, .nm .a, .nm .b].all fun x => decide (rdHd (nmC n ++ cSet ++ vlC (.copy x)) = some (.set n (.copy x)))
theorem chk2_ok : chk2 = true := by decide +kernel
theorem rd_head {s : Sm} (h : hdDg s) : rdHd (hdC s) = some (hdOf s) := by
  cases s with
  | brk => decide
  | set n v =>
    have c := List.all_eq_true.mp chk2_ok n (by cases n <;> decide)
    rw [Bool.and_eq_true] at c
    cases v with
    | pv p => exact of_decide_eq_true (List.all_eq_true.mp c.1 p (mem_allPv h))
    | copy x => exact of_decide_eq_true (List.all_eq_true.mp c.2 x (by cases x with
      | item => decide
      | nm n => cases n <;> decide))
  | ifs t y n =>
    obtain ⟨neg, w, p, q⟩ := t
    have c := List.all_eq_true.mp (List.all_eq_true.mp (List.all_eq_true.mp (List.all_eq_true.mp chk1_ok p (mem_allPv h.1)) q (mem_allPv h.2)) w (by cases w <;> decide)) neg (by cases neg <;> decide)
    exact of_decide_eq_true c
/-- such a line is no other one -/
def chk3 : Bool := [cPass, cElse, cFor, []].all fun a => decide (rdHd a = none)
theorem chk3_ok : chk3 = true := by decide +kernel
end Uk
end
section
set_option Elab.async false
set_option linter.all false
set_option maxRecDepth 100000
set_option autoImplicit false
set_option maxHeartbeats 1000000
namespace UkW
open Uk
open Mac (Wo Th Ot Nm Bs Pv Vl Wd Ts Sm Bk)
/-! ## Heads of lines, read -/
theorem fn_pval : P.fn "" "plain_value" = some d_plain_value := by rfl
theorem fn_valin : P.fn "" "value_in" = some d_value_in := by rfl
theorem fn_ptest : P.fn "" "plain_test" = some d_plain_test := by rfl
theorem fn_testin : P.fn "" "test_in" = some d_test_in := by rfl
theorem fn_headin : P.fn "" "head_in" = some d_head_in := by rfl
def valsK : List (String × D) := [("item", .tup [.str "item"]), ("a", .tup [.str "a"]), ("b", .tup [.str "b"]), ("None", .tup [.str "none"])]
def wordsK : List (String × D) := [("same", .str " is "), ("like", .str " == "), ("in", .str " in ["), ("less", .str " < ")]
theorem dct_vals : P.dct "VALUES" = some valsK := by rfl
theorem dct_words : P.dct "WORDS" = some wordsK := by rfl
theorem con_digits : P.con "DIGITS" = some (.str "0123456789") := by rfl
theorem con_names : P.con "NAMES" = some (.tup [.str "a", .str "b"]) := by rfl
theorem k_item : ("item" : String) = T cItem := rfl
theorem k_a : ("a" : String) = T ['a'] := rfl
theorem k_b : ("b" : String) = T ['b'] := rfl
theorem k_None : ("None" : String) = T cNone := rfl
theorem k_copy : ("copy(" : String) = T cCopy := rfl
theorem k_par : (")" : String) = T [')'] := rfl
theorem k_brk : ("]" : String) = T [']'] := rfl
theorem k_col : (":" : String) = T [':'] := rfl
theorem k_if : ("if " : String) = T cIf := rfl
theorem k_not : ("not " : String) = T cNot := rfl
theorem k_set : (" = " : String) = T cSet := rfl
theorem k_break : ("break" : String) = T cBreak := rfl
theorem k_pass : ("pass" : String) = T cPass := rfl
theorem k_else : ("else:" : String) = T cElse := rfl
theorem k_for : ("for item in items:" : String) = T cFor := rfl
theorem k_nil : ("" : String) = T [] := rfl
theorem k_bl : (" " : String) = T [' '] := rfl
theorem k_lf : ("\n" : String) = T ['\n'] := rfl
theorem k_in : (" in [" : String) = T (wdC .in_) := rfl
theorem k_wd (w : Wd) : lookF (wdS w) wordsK = some (.str (T (wdC w))) := by cases w <;> rfl
theorem call_run {fd : FDef} {k f : String} (hf : P.fn k f = some fd) {n : Nat} {args : List D} {g : G} (hl : args.length = fd.ps.length) : call P (n + 1) k f args g = (exs ⟨P, call P n, call P (n - 1), none⟩ fd.body (args.map some ++ List.replicate (fd.N.length - args.length) none) g).bind fun z g => match z.2 with
    | .nx => .ok .non g
    | .rt d => .ok d g := by
  rw [call_fn hf]
  unfold runF
  rw [if_pos hl]
  try rfl
theorem cmp_in (c : Cx) (x y : D) (g : G) : cmpop c .in_ x y g = orElse (inOp x y g) fun b => .ok (.bl b) g := rfl
theorem cmp_nin (c : Cx) (x y : D) (g : G) : cmpop c .nin x y g = orElse (inOp x y g) fun b => .ok (.bl (!b)) g := rfl
theorem sgn_D (c : Char) (g : G) : inOp (.str (T [c])) (.str "0123456789") g = some (rdDig [c]).isSome := T_sgn c
def pvO : Option Pv → D
  | some p => pvD p
  | none => .non
theorem eq_T (a b : Cs) : D.eqv (.str (T a)) (.str (T b)) = decide (a = b) := T_beq a b
theorem look_vals (a : Cs) : lookF (T a) valsK = match rdBs a with
    | some x => some (bsD x)
    | none => if a = cNone then some (.tup [.str "none"]) else none := by
  unfold rdBs
  simp only [valsK, lookF, k_item, k_a, k_b, k_None, T_inj]
  simp only [eq_comm (b := a)]
  by_cases h1 : a = cItem
  · subst h1; try rfl
  · rw [if_neg h1, if_neg h1]
    by_cases h2 : a = ['a']
    · subst h2; try rfl
    · rw [if_neg h2, if_neg h2]
      by_cases h3 : a = ['b']
      · subst h3; try rfl
      · rw [if_neg h3, if_neg h3]
theorem rdDig_len {a : Cs} (h : a.length ≠ 1) : rdDig a = none := by
  unfold rdDig
  rw [List.find?_eq_none]
  intro n _ e
  have e := of_decide_eq_true e
  subst e
  exact h rfl
theorem plain_value_ok (n : Nat) (g : G) {a : Cs} (hl : a.length ≤ 1000000) : call P (n + 1) "" "plain_value" [.str (T a)] g = .ok (pvO (rdPv a)) g := by
  have hv := look_vals a
  have hL : (T a).length ≤ line := by rw [T_len]; have : line = 16777216 := rfl; omega
  rw [call_run fn_pval rfl]
  unfold rdPv
  cases hb : rdBs a with
  | some x =>
    rw [hb] at hv
    simp [d_plain_value, exs, exe, ev, evs, dinM, dixM, dct_vals, hv, pvO, pvD]
  | none =>
    rw [hb] at hv
    by_cases hn : a = cNone
    · rw [if_pos hn] at hv ⊢
      simp [d_plain_value, exs, exe, ev, evs, dinM, dixM, dct_vals, hv, pvO, pvD]
    · rw [if_neg hn] at hv ⊢
      by_cases h1 : a.length = 1
      · obtain ⟨c, rfl⟩ := List.length_eq_one_iff.mp h1
        have hs := T_sgn c
        have hd := T_dig [c]
        have hlen : builtin ⟨P, call P n, call P (n - 1), none⟩ .len [.str (T [c])] g = .ok (.int 1) g := by
          show (if (T [c]).length ≤ line then R.ok (D.int ((T [c]).length : Int)) g else .bad) = _
          rw [if_pos hL, T_len]
          try rfl
        cases hr : rdDig [c] with
        | none =>
          rw [hr] at hs
          simp [d_plain_value, exs, exe, ev, evs, dinM, dixM, dct_vals, hv, con_digits, hlen, eq_data, D.ok, D.dep, D.eqv, cmp_in, sgn_D, hr, pvO]
        | some k =>
          rw [hr] at hs hd
          have hi : builtin ⟨P, call P n, call P (n - 1), none⟩ .int [.str (T [c])] g = .ok (.int k) g := by
            show orElse (digT (T [c])) (fun n => R.ok (D.int (n : Int)) g) = _
            rw [hd]
            try rfl
          simp [d_plain_value, exs, exe, ev, evs, dinM, dixM, dct_vals, hv, con_digits, hlen, hi, eq_data, D.ok, D.dep, D.eqv, cmp_in, sgn_D, hr, pvO, pvD]
      · rw [rdDig_len h1]
        have hlen : builtin ⟨P, call P n, call P (n - 1), none⟩ .len [.str (T a)] g = .ok (.int a.length) g := by
          show (if (T a).length ≤ line then R.ok (D.int ((T a).length : Int)) g else .bad) = _
          rw [if_pos hL, T_len]
        have hne : D.eqv (D.int (a.length : Int)) (D.int 1) = false := by
          show ((a.length : Int) == 1) = false
          exact beq_eq_false_iff_ne.mpr (by omega)
        simp [d_plain_value, exs, exe, ev, evs, dinM, dixM, dct_vals, hv, hlen, eq_data, hne, pvO]
theorem str_ok (s : String) : (D.str s).ok = true := rfl
theorem cut_ok (a : Cs) (lo hi : Option Int) (g : G) (hl : a.length ≤ 1000000) : getCut (.str (T a)) lo hi g = .ok (.str (T (cutC a lo hi))) g := by
  have hL : (T a).length ≤ line := by rw [T_len]; have : line = 16777216 := rfl; omega
  show (if (T a).length ≤ line then R.ok (D.str (cutT (T a) lo hi)) g else .bad) = _
  rw [if_pos hL, T_cut]
  try rfl
theorem cut_le (a : Cs) (lo hi : Option Int) : (cutC a lo hi).length ≤ a.length := by
  unfold cutC cutL
  rw [List.length_take, List.length_drop]
  omega
def vlO : Option Vl → D
  | some v => vlD v
  | none => .non
theorem in_names (x : Cs) (g : G) : inOp (.str (T x)) (.tup [.str "item", .str "a", .str "b"]) g = some (rdBs x).isSome := by
  have h0 : ((D.str (T x)).ok && oksB [.str "item", .str "a", .str "b"]) = true := rfl
  show (if ((D.str (T x)).ok && oksB [.str "item", .str "a", .str "b"]) = true then some (([.str "item", .str "a", .str "b"] : List D).any fun z => z.eqv (D.str (T x))) else none) = _
  rw [if_pos h0]
  simp only [List.any_cons, List.any_nil, Bool.or_false, k_item, k_a, k_b, eq_T]
  unfold rdBs
  simp only [eq_comm (b := x)]
  by_cases h1 : x = cItem
  · simp [h1]
  · have na : ¬ (['a'] = cItem) := by decide
    have nb : ¬ (['b'] = cItem) := by decide
    by_cases h2 : x = ['a']
    · simp [h1, h2, na]
    · by_cases h3 : x = ['b'] <;> simp [h1, h2, h3, nb]
theorem value_in_ok (n : Nat) (g : G) {a : Cs} (hl : a.length ≤ 1000000) : call P (n + 2) "" "value_in" [.str (T a)] g = .ok (vlO (rdVl a)) g := by
  rw [call_run fn_valin rfl]
  have c1 := cut_ok a none (some 5) g hl
  have c2 := cut_ok a (some (-1)) none g hl
  have c3 := cut_ok a (some 5) (some (-1)) g hl
  have hx := in_names (cutC a (some 5) (some (-1))) g
  have hv := look_vals (cutC a (some 5) (some (-1)))
  have hp := plain_value_ok n g hl
  unfold rdVl isCopy
  by_cases h1 : cutC a none (some 5) = cCopy
  · by_cases h2 : cutC a (some (-1)) none = [')']
    · cases hb : rdBs (cutC a (some 5) (some (-1))) with
      | none =>
        rw [hb] at hx
        simp [d_value_in, exs, exe, ev, evs, isnC, c1, c2, c3, k_copy, k_par, eq_data, str_ok, T_inj, h1, h2, cmp_in, hx]
        simp [vlO]
      | some x =>
        rw [hb] at hx hv
        simp [d_value_in, exs, exe, ev, evs, isnC, c1, c2, c3, k_copy, k_par, eq_data, str_ok, T_inj, h1, h2, cmp_in, hx, dixM, dct_vals, hv]
        simp [vlO, vlD]
    · simp [d_value_in, exs, exe, ev, evs, isnC, c1, c2, k_copy, k_par, eq_data, str_ok, T_inj, h1, h2, hp]
      cases rdPv a <;> rfl
  · simp [d_value_in, exs, exe, ev, evs, isnC, c1, k_copy, eq_data, str_ok, T_inj, h1, hp]
    cases rdPv a <;> rfl
theorem spl_len (S : Cs) : ∀ (l acc : Cs) (k : Nat), (splL S k acc l).length ≤ l.length + 1
  | [], acc, k => by unfold splL; simp
  | c :: r, acc, 0 => by
    unfold splL
    split
    · have := spl_len S r [] (S.length - 1)
      simp only [List.length_cons]
      omega
    · have := spl_len S r (acc ++ [c]) 0
      simp only [List.length_cons]
      omega
  | c :: r, acc, k + 1 => by
    unfold splL
    have := spl_len S r acc k
    simp only [List.length_cons]
    omega
def strL (l : List Cs) : List D := l.map fun x => .str (T x)
theorem split_ok {a b : Cs} (g : G) (ha : a.length ≤ 1000000) (hb : 0 < b.length) (hc : b.all (fun c => decide (c.toNat < 256)) = true) : strM (.str (T a)) "split" [.str (T b)] g = .ok (.ref g.length) (g ++ [.lst (strL (splL b 0 [] a))]) := by
  show (if "split" = "split" ∧ 0 < (T b).length ∧ (T a).length ≤ 1000000 ∧ (T b).toList.all (fun c => decide (c.toNat < 256)) = true then newL ((splT (T a) (T b)).map .str) g else .bad) = _
  rw [T_len, T_len, T_list, if_pos ⟨rfl, hb, ha, hc⟩, T_spl, List.map_map]
  refine newL_ok ?_ g
  rw [List.length_map]
  have := spl_len b a [] 0
  have e : line = 16777216 := rfl
  omega
theorem kind_str (s : String) (g : G) : kindOf P (.str s) "split" g = some .str := rfl
theorem wd_pos (w : Wd) : 0 < (wdC w).length ∧ (wdC w).all (fun c => decide (c.toNat < 256)) = true := by cases w <;> decide
theorem wd_in (w : Wd) : D.eqv (.str (wdS w)) (.str "in") = decide (w = .in_) := by cases w <;> decide
def t0O : Option (Wd × Pv × Pv) → D
  | some z => t0D z.1 z.2.1 z.2.2
  | none => .non
theorem pv_isNon (p : Option Pv) : (pvO p).isNon = p.isNone := by
  cases p with
  | none => rfl
  | some p => cases p with
    | bs x => cases x <;> rfl
    | none => rfl
    | «at» k => rfl
def ptBody : Ss := .c (.asg 2 (.met (.loc 0) "split" (.c (.dix "WORDS" (.loc 1)) .n))) (.c (.ife (.and_ (.cmp .eq (.bi .len (.c (.loc 2) .n)) (.cst (.int 2))) (.or_ (.cmp .ne (.loc 1) (.cst (.str "in"))) (.cmp .eq (.cut (.ix (.loc 2) (.cst (.int 1))) (.neg (.cst (.int 1))) (.cst .non)) (.cst (.str "]")))))
  (.c (.par 3 4 (.call "plain_value" (.c (.ix (.loc 2) (.cst (.int 0))) .n)) (.call "plain_value" (.c (.ite (.cmp .eq (.loc 1) (.cst (.str "in"))) (.cut (.ix (.loc 2) (.cst (.int 1))) (.cst .non) (.neg (.cst (.int 1)))) (.ix (.loc 2) (.cst (.int 1)))) .n))) (.c (.ret (.ite (.or_ (.cmp .isn (.loc 3) (.cst .non)) (.cmp .isn (.loc 4) (.cst .non))) (.cst .non) (.tup (.c (.loc 1) (.c (.loc 3) (.c (.loc 4) .n)))))) .n)) .n) .n)
theorem ptest_body : d_plain_test.body = .c (.for_ (.one 1) (.gd "WORDS") ptBody) (.c (.ret (.cst .non)) .n) := by rfl
theorem spl_mem {S : Cs} : ∀ {l acc : Cs} {k : Nat} {x : Cs}, x ∈ splL S k acc l → x.length ≤ acc.length + l.length
  | [], acc, k, x, h => by
    unfold splL at h
    rw [List.mem_singleton.mp h]
    simp
  | c :: r, acc, 0, x, h => by
    unfold splL at h
    split at h
    · rcases List.mem_cons.mp h with h | h
      · rw [h]; simp
      · have := spl_mem h
        simp only [List.length_nil, List.length_cons] at this ⊢
        omega
    · have := spl_mem h
      simp only [List.length_append, List.length_cons, List.length_nil] at this ⊢
      omega
  | c :: r, acc, k + 1, x, h => by
    unfold splL at h
    have := spl_mem h
    simp only [List.length_cons]
    omega
end UkW
end
section
set_option Elab.async false
set_option linter.all false
set_option maxRecDepth 100000
set_option autoImplicit false
set_option maxHeartbeats 1000000
namespace UkW
open Uk
open Mac (Wo Th Ot Nm Bs Pv Vl Wd Ts Sm Bk)
theorem pt_turn (n : Nat) (w : Wd) (g : G) {a : Cs} (hl : a.length ≤ 1000000) (x2 x3 x4 : Option D) : Ok (exs ⟨P, call P (n + 1), call P n, none⟩ ptBody [some (.str (T a)), some (.str (wdS w)), x2, x3, x4] g) fun z g' => Gr g g' ∧ match tryW w a with
    | some r => z.2 = .rt (t0O r)
    | none => z.2 = .nx ∧ ∃ y2 y3 y4, z.1 = [some (.str (T a)), some (.str (wdS w)), y2, y3, y4] := by
  have hs := split_ok g hl (wd_pos w).1 (wd_pos w).2
  have hw := k_wd w
  have hmem := fun x => spl_mem (S := wdC w) (l := a) (acc := []) (k := 0) (x := x)
  have hlen := spl_len (wdC w) a [] 0
  have tw : ∀ ps, splL (wdC w) 0 [] a = ps → tryW w a = (match ps with
    | [x, y] => if w ≠ .in_ ∨ cutC y (some (-1)) none = [']'] then some (match rdPv x, rdPv (if w = .in_ then cutC y none (some (-1)) else y) with
      | some p, some q => some (w, p, q)
      | _, _ => none) else none
    | _ => none) := fun ps e => by unfold tryW; rw [e]; try rfl
  generalize hps : splL (wdC w) 0 [] a = ps at hs hmem hlen
  have tw := tw ps hps
  have hg : (g ++ [.lst (strL ps)] : G)[g.length]? = some (.lst (strL ps)) := get_new _ _
  have gr : Gr g (g ++ [.lst (strL ps)]) := Gr.app _ _
  generalize (g ++ [.lst (strL ps)] : G) = g1 at hs hg gr
  have hL := len_ref (c := ⟨P, call P (n + 1), call P n, none⟩) hg
  have hin := wd_in w
  match ps with
  | [] =>
    rw [show tryW w a = none from tw]
    simp [ptBody, exs, exe, ev, evs, kind_str, dixM, dct_words, hw, hs, hL, eq_data, D.ok, D.dep, D.eqv, strL]
    exact gr
  | [x] =>
    rw [show tryW w a = none from tw]
    simp [ptBody, exs, exe, ev, evs, kind_str, dixM, dct_words, hw, hs, hL, eq_data, D.ok, D.dep, D.eqv, strL]
    exact gr
  | [x, y] =>
    have lx : x.length ≤ 1000000 := by have := hmem x (by simp); simp at this; omega
    have ly : y.length ≤ 1000000 := by have := hmem y (by simp); simp at this; omega
    have i0 : getIx (.ref g.length) (.int 0) g1 = .ok (.str (T x)) g1 := by rw [getIx_ref hg]; try rfl
    have i1 : getIx (.ref g.length) (.int 1) g1 = .ok (.str (T y)) g1 := by rw [getIx_ref hg]; try rfl
    have c1 := cut_ok y (some (-1)) none g1 ly
    have c2 := cut_ok y none (some (-1)) g1 ly
    have v0 := plain_value_ok n g1 lx
    have v1 := plain_value_ok n g1 ly
    have v2 := plain_value_ok n g1 (a := cutC y none (some (-1))) (by have := cut_le y none (some (-1)); omega)
    have n0 := pv_isNon (rdPv x)
    have n1 := pv_isNon (rdPv y)
    have n2 := pv_isNon (rdPv (cutC y none (some (-1))))
    by_cases hwi : w = .in_
    · subst hwi
      have hwi2 : lookF "in" wordsK = some (.str (T (wdC .in_))) := rfl
      generalize wdC .in_ = wc at hwi2 hs
      by_cases hb : cutC y (some (-1)) none = [']']
      · rw [show tryW .in_ a = some (match rdPv x, rdPv (cutC y none (some (-1))) with
          | some p, some q => some (.in_, p, q)
          | _, _ => none) from tw.trans (by simp [hb])]
        simp [ptBody, exs, exe, ev, evs, kind_str, dixM, dct_words, hwi2, hs, hL, strL, isnC, i0, i1, c1, c2, wdS, k_brk, eq_data, ne_data, D.ok, D.dep, D.eqv, T_inj, hb, v0, v2, n0, n2]
        cases rdPv x <;> cases rdPv (cutC y none (some (-1))) <;> simp [t0O, t0D, pvO, wdS, gr]
      · rw [show tryW .in_ a = none from tw.trans (by simp [hb])]
        simp [ptBody, exs, exe, ev, evs, kind_str, dixM, dct_words, hwi2, hs, hL, strL, isnC, i0, i1, c1, c2, wdS, k_brk, eq_data, ne_data, D.ok, D.dep, D.eqv, T_inj, T_beq, hb]
        exact gr
    · have hws : ¬ (wdS w = "in") := by
        cases w <;> first | exact absurd rfl hwi | decide
      rw [show tryW w a = some (match rdPv x, rdPv y with
          | some p, some q => some (w, p, q)
          | _, _ => none) from tw.trans (by simp [hwi])]
      have hws2 : (wdS w == "in") = false := beq_eq_false_iff_ne.mpr hws
      cases hx : rdPv x with
      | none =>
        rw [hx] at v0
        cases rdPv y <;> simp [ptBody, exs, exe, ev, evs, kind_str, dixM, dct_words, hw, hs, hL, strL, isnC, i0, i1, hws, hws2, eq_data, ne_data, D.ok, D.dep, D.eqv, v0, v1, pvO, t0O, D.isNon] <;> exact gr
      | some p =>
        cases hy : rdPv y with
        | none =>
          rw [hx] at v0 n0
          rw [hy] at v1
          simp [ptBody, exs, exe, ev, evs, kind_str, dixM, dct_words, hw, hs, hL, strL, isnC, i0, i1, hws, hws2, eq_data, ne_data, D.ok, D.dep, D.eqv, v0, v1, n0, t0O]
          simp [pvO, D.isNon]
          exact gr
        | some q =>
          rw [hx] at v0 n0
          rw [hy] at v1 n1
          simp [ptBody, exs, exe, ev, evs, kind_str, dixM, dct_words, hw, hs, hL, strL, isnC, i0, i1, hws, hws2, eq_data, ne_data, D.ok, D.dep, D.eqv, v0, v1, n0, n1, t0O, t0D]
          simp [pvO]
          exact gr
  | x :: y :: z :: r =>
    rw [show tryW w a = none from tw]
    have h2 : ¬ ((r.length : Int) + 1 + 1 + 1 = 2) := by omega
    have h2b : ((r.length : Int) + 1 + 1 + 1 == 2) = false := beq_eq_false_iff_ne.mpr h2
    simp [ptBody, exs, exe, ev, evs, kind_str, dixM, dct_words, hw, hs, hL, eq_data, D.ok, D.dep, D.eqv, strL, h2, h2b]
    exact gr
end UkW
end
section
set_option Elab.async false
set_option linter.all false
set_option maxRecDepth 100000
set_option autoImplicit false
set_option maxHeartbeats 1000000
namespace UkW
open Uk
open Mac (Wo Th Ot Nm Bs Pv Vl Wd Ts Sm Bk)
def wkW : Wk := .tup (wordsK.map fun p => .str p.1)
theorem wkW_item (i : Nat) (h : i < 4) (g : G) : wkW.item 4 i g = some (some (.str (wdS (words[i]'h)))) := by
  match i, h with
  | 0, _ => rfl
  | 1, _ => rfl
  | 2, _ => rfl
  | 3, _ => rfl
theorem forL_nil (w : Wk) (n : Nat) (t : Tg) (body : Env → G → RS) (i : Nat) (δ : Env) (g : G) (h : w.item n i g = some none) : forL w n t body 0 i δ g = .ok (δ, .nx) g := by
  unfold forL; rw [h]
theorem pt_loop (n : Nat) (g0 : G) {a : Cs} (hl : a.length ≤ 1000000) : ∀ (k i : Nat) (h : i + k = 4) (g : G) (x1 x2 x3 x4 : Option D), Gr g0 g → Ok (forL wkW 4 (.one 1) (exs ⟨P, call P (n + 1), call P n, none⟩ ptBody) k i [some (.str (T a)), x1, x2, x3, x4] g) fun z g' => Gr g0 g' ∧ (match z.2 with
    | .nx => rdT0 a (words.drop i) = none
    | .rt v => v = t0O (rdT0 a (words.drop i)))
  | 0, i, h, g, x1, x2, x3, x4, hg => by
    have : i = 4 := by omega
    subst this
    rw [forL_nil _ _ _ _ _ _ _ rfl]
    exact ⟨hg, rfl⟩
  | k + 1, i, h, g, x1, x2, x3, x4, hg => by
    have hi : i < 4 := by omega
    have e : words.drop i = words[i]'hi :: words.drop (i + 1) := List.drop_eq_getElem_cons hi
    unfold forL
    rw [wkW_item i hi]
    show Ok ((exs ⟨P, call P (n + 1), call P n, none⟩ ptBody [some (.str (T a)), some (.str (wdS (words[i]'hi))), x2, x3, x4] g).bind _) _
    rw [Ok_bind]
    refine (pt_turn n (words[i]'hi) g hl x2 x3 x4).mono fun z g' q => ?_
    obtain ⟨q1, q2⟩ := q
    obtain ⟨e2, f⟩ := z
    rw [e]
    cases ht : tryW (words[i]'hi) a with
    | some r =>
      rw [ht] at q2
      have q2 : f = .rt (t0O r) := q2
      subst q2
      refine ⟨hg.trans q1, ?_⟩
      show _ = t0O (match tryW (words[i]'hi) a with | some r => r | none => _)
      rw [ht]
    | none =>
      rw [ht] at q2
      obtain ⟨q2, y2, y3, y4, q3⟩ := q2
      have q2 : f = .nx := q2
      have q3 : e2 = _ := q3
      subst q2 q3
      have r : rdT0 a (words[i]'hi :: words.drop (i + 1)) = rdT0 a (words.drop (i + 1)) := by
        show (match tryW (words[i]'hi) a with | some r => r | none => _) = _
        rw [ht]
      rw [r]
      exact pt_loop n g0 hl k (i + 1) (by omega) g' _ _ _ _ (hg.trans q1)
theorem exs_for (c : Cx) (t : Tg) (it : It) (b r : Ss) (δ : Env) (g : G) : exs c (.c (.for_ t it b) r) δ g = ((evI c it δ g).bind fun w g => forL w.2 w.1 t (exs c b) w.1 0 δ g).bind fun z g => match z with
    | (δ, .nx) => exs c r δ g
    | z => .ok z g := by simp only [exs, exe]; try rfl
theorem exs_ife_f {c : Cx} {t : Uk.E} {a r : Ss} {δ : Env} {g g' : G} (h : ev c t δ g = .ok (.bl false) g') : exs c (.c (.ife t a .n) r) δ g = exs c r δ g' := by simp [exs, exe, h]
theorem exs_ife_t {c : Cx} {t : Uk.E} {a r : Ss} {δ : Env} {g g' : G} (h : ev c t δ g = .ok (.bl true) g') : exs c (.c (.ife t a .n) r) δ g = (exs c a δ g').bind fun z g => match z with
    | (δ, .nx) => exs c r δ g
    | z => .ok z g := by simp [exs, exe, h]; try rfl
theorem plain_test_ok (n : Nat) (g : G) {a : Cs} (hl : a.length ≤ 1000000) : Ok (call P (n + 2) "" "plain_test" [.str (T a)] g) fun v g' => Gr g g' ∧ v = t0O (rdT0 a words) := by
  refine body_run (n := n + 1) fn_ptest rfl ?_
  rw [ptest_body]
  show Ok (exs ⟨P, call P (n + 1), call P n, none⟩ (.c (.for_ (.one 1) (.gd "WORDS") ptBody) (.c (.ret (.cst .non)) .n)) [some (.str (T a)), none, none, none, none] g) _
  rw [exs_for]
  have e : evI ⟨P, call P (n + 1), call P n, none⟩ (.gd "WORDS") [some (.str (T a)), none, none, none, none] g = .ok (4, wkW) g := by
    simp [evI, dct_words]
    exact ⟨rfl, rfl⟩
  rw [e, Ok_bind, Ok_bind, Ok_ok]
  refine (pt_loop n g hl 4 0 rfl g none none none none (.refl _)).mono fun z g' q => ?_
  obtain ⟨q1, q2⟩ := q
  obtain ⟨e2, f⟩ := z
  cases f with
  | rt v => exact ⟨q1, q2⟩
  | nx =>
    have q2 : rdT0 a words = none := q2
    show Gr g g' ∧ D.non = _
    rw [q2]
    exact ⟨q1, rfl⟩
def tsO : Option Ts → D
  | some t => tsD t
  | none => .non
theorem t0_isNon (p : Option (Wd × Pv × Pv)) : (t0O p).isNon = p.isNone := by
  cases p <;> rfl
theorem ts_isNon (p : Option Ts) : (tsO p).isNon = p.isNone := by
  cases p with
  | none => rfl
  | some t => obtain ⟨neg, w, x, y⟩ := t; cases neg <;> rfl
theorem vl_isNon (p : Option Vl) : (vlO p).isNon = p.isNone := by
  cases p with
  | none => rfl
  | some p => cases p with
    | pv p => exact pv_isNon (some p)
    | copy x => rfl
theorem test_in_ok (n : Nat) (g : G) {a : Cs} (hl : a.length ≤ 1000000) : Ok (call P (n + 3) "" "test_in" [.str (T a)] g) fun v g' => Gr g g' ∧ v = tsO (rdTs a) := by
  refine body_run (n := n + 2) fn_testin rfl ?_
  show Ok (exs ⟨P, call P (n + 2), call P (n + 1), none⟩ d_test_in.body [some (.str (T a)), none] g) _
  have c1 := cut_ok a none (some 4) g hl
  have c2 := cut_ok a (some 4) none g hl
  by_cases h : cutC a none (some 4) = cNot
  · have hi : isNot a = true := by unfold isNot; exact decide_eq_true h
    obtain ⟨v, g1, e1, q1, rfl⟩ := (plain_test_ok n g (a := cutC a (some 4) none) (by have := cut_le a (some 4) none; omega)).to
    have r : rdTs a = (rdT0 (cutC a (some 4) none) words).map fun z => ⟨true, z.1, z.2.1, z.2.2⟩ := by unfold rdTs; rw [hi]; try rfl
    rw [r]
    simp [d_test_in, exs, exe, ev, evs, isnC, c1, c2, eq_data, k_not, T_inj, h, str_ok, e1, t0_isNon]
    cases rdT0 (cutC a (some 4) none) words <;> simp [tsO, t0O, tsD, q1]
  · have hi : isNot a = false := by unfold isNot; exact decide_eq_false h
    obtain ⟨v, g1, e1, q1, rfl⟩ := (plain_test_ok n g (a := a) hl).to
    have r : rdTs a = (rdT0 a words).map fun z => ⟨false, z.1, z.2.1, z.2.2⟩ := by unfold rdTs; rw [hi]; try rfl
    rw [r]
    simp [d_test_in, exs, exe, ev, evs, isnC, c1, c2, eq_data, k_not, T_inj, h, str_ok, e1]
    cases rdT0 a words <;> simp [tsO, t0O, tsD, q1]
def hdD : Hd → List D
  | .brk => [.str "break"]
  | .ifs t => [.str "if", tsD t]
  | .set x v => [.str "set", .str (nmS x), vlD v]
def hdO : Option Hd → D
  | some h => .tup (hdD h)
  | none => .non
theorem nm_in (x : Cs) (g : G) : inOp (.str (T x)) (.tup [.str "a", .str "b"]) g = some (rdNm x).isSome := by
  show some ([D.str "a", D.str "b"].any fun y => D.eqv y (.str (T x))) = _
  unfold rdNm
  simp only [k_a, k_b, List.any_cons, List.any_nil, eq_T]
  simp only [eq_comm (a := x)]
  by_cases h1 : ['a'] = x
  · simp [h1]
  · by_cases h2 : ['b'] = x
    · simp [h1, h2]
    · simp [h1, h2]
def hiSet : Ss := (.c (.asg 2 (.met (.loc 0) "split" (.c (.cst (.str " = ")) .n))) (.c (.ife (.or_ (.cmp .ne (.bi .len (.c (.loc 2) .n)) (.cst (.int 2))) (.or_ (.cmp .nin (.ix (.loc 2) (.cst (.int 0))) (.glo "NAMES")) (.cmp .isn (.call "value_in" (.c (.ix (.loc 2) (.cst (.int 1))) .n)) (.cst .non)))) (.c (.ret (.cst .non)) .n) .n) (.c (.ret (.tup (.c (.cst (.str "set")) (.c (.ix (.loc 2) (.cst (.int 0))) (.c (.call "value_in" (.c (.ix (.loc 2) (.cst (.int 1))) .n)) .n))))) .n)))
def hiB : Uk.E := (.and_ (.cmp .eq (.cut (.loc 0) (.cst .non) (.cst (.int 3))) (.cst (.str "if "))) (.cmp .eq (.cut (.loc 0) (.neg (.cst (.int 1))) (.cst .non)) (.cst (.str ":"))))
def hiIf : Ss := .c (.asg 1 (.call "test_in" (.c (.cut (.loc 0) (.cst (.int 3)) (.neg (.cst (.int 1)))) .n))) (.c (.ret (.ite (.cmp .isn (.loc 1) (.cst .non)) (.cst .non) (.tup (.c (.cst (.str "if")) (.c (.loc 1) .n))))) .n)
theorem hi_body : d_head_in.body = .c (.ife (.cmp .eq (.loc 0) (.cst (.str "break"))) (.c (.ret (.tup (.c (.cst (.str "break")) .n))) .n) .n) (.c (.ife hiB hiIf .n) hiSet) := by rfl
theorem head_in_ok (n : Nat) (g : G) {a : Cs} (hl : a.length ≤ 1000000) : Ok (call P (n + 4) "" "head_in" [.str (T a)] g) fun v g' => Gr g g' ∧ v = hdO (rdHd a) := by
  refine body_run (n := n + 3) fn_headin rfl ?_
  show Ok (exs ⟨P, call P (n + 3), call P (n + 2), none⟩ d_head_in.body [some (.str (T a)), none, none] g) _
  by_cases hb : a = cBreak
  · subst hb
    rw [show rdHd cBreak = some .brk from rfl]
    simp [d_head_in, exs, exe, ev, evs, eq_data, k_break, T_inj, str_ok]
    exact ⟨.refl _, rfl⟩
  have c1 := cut_ok a none (some 3) g hl
  have c2 := cut_ok a (some (-1)) none g hl
  have c3 := cut_ok a (some 3) (some (-1)) g hl
  have hs := split_ok (b := cSet) g hl (by decide) (by decide)
  have hlen := spl_len cSet a [] 0
  have hmem := fun x => spl_mem (S := cSet) (l := a) (acc := []) (k := 0) (x := x)
  have setc : ¬ isIfC a = true → Ok (exs ⟨P, call P (n + 3), call P (n + 2), none⟩ hiSet [some (.str (T a)), none, none] g) fun z g' => match z.2 with
      | .nx => Gr g g' ∧ D.non = hdO (rdHd a)
      | .rt v => Gr g g' ∧ v = hdO (rdHd a) := by
    intro hif
    have tw : ∀ ps, splL cSet 0 [] a = ps → rdHd a = (match ps with
      | [x, y] => match rdNm x, rdVl y with
        | some n, some v => some (.set n v)
        | _, _ => none
      | _ => none) := fun ps e => by unfold rdHd; rw [if_neg hb, if_neg hif, e]; try rfl
    generalize hps : splL cSet 0 [] a = ps at hs hmem hlen
    have tw := tw ps hps
    have hg : (g ++ [.lst (strL ps)] : G)[g.length]? = some (.lst (strL ps)) := get_new _ _
    have gr : Gr g (g ++ [.lst (strL ps)]) := Gr.app _ _
    generalize (g ++ [.lst (strL ps)] : G) = g1 at hs hg gr
    have hL := len_ref (c := ⟨P, call P (n + 3), call P (n + 2), none⟩) hg
    match ps with
    | [] =>
      rw [tw]
      simp [hiSet, exs, exe, ev, evs, kind_str, k_set, hs, hL, ne_data, D.ok, D.dep, D.eqv, strL]
      exact ⟨gr, rfl⟩
    | [x] =>
      rw [tw]
      simp [hiSet, exs, exe, ev, evs, kind_str, k_set, hs, hL, ne_data, D.ok, D.dep, D.eqv, strL]
      exact ⟨gr, rfl⟩
    | [x, y] =>
      have ly : y.length ≤ 1000000 := by have := hmem y (by simp); simp at this; omega
      have i0 : getIx (.ref g.length) (.int 0) g1 = .ok (.str (T x)) g1 := by rw [getIx_ref hg]; try rfl
      have i1 : getIx (.ref g.length) (.int 1) g1 = .ok (.str (T y)) g1 := by rw [getIx_ref hg]; try rfl
      have v1 := value_in_ok (n + 1) g1 ly
      have n1 := vl_isNon (rdVl y)
      have hn := nm_in x g1
      have tw2 : rdHd a = (match rdNm x, rdVl y with
        | some n, some v => some (.set n v)
        | _, _ => none) := tw
      rw [tw2]
      cases hx : rdNm x with
      | none =>
        rw [hx] at hn
        simp [hiSet, exs, exe, ev, evs, kind_str, k_set, hs, hL, ne_data, D.ok, D.dep, D.eqv, strL, i0, i1, cmp_nin, con_names, hn]
        exact ⟨gr, rfl⟩
      | some m =>
        have hxm : (.str (T x) : D) = .str (nmS m) := by
          unfold rdNm at hx
          split at hx
          · cases hx; subst x; try rfl
          · split at hx
            · cases hx; subst x; try rfl
            · exact absurd hx (by simp)
        rw [hx] at hn
        cases hy : rdVl y with
        | none =>
          rw [hy] at v1 n1
          simp [hiSet, exs, exe, ev, evs, kind_str, k_set, hs, hL, ne_data, D.ok, D.dep, D.eqv, strL, i0, i1, cmp_nin, con_names, hn, v1, isnC, n1]
          exact ⟨gr, rfl⟩
        | some v =>
          rw [hy] at v1 n1
          simp [hiSet, exs, exe, ev, evs, kind_str, k_set, hs, hL, ne_data, D.ok, D.dep, D.eqv, strL, i0, i1, cmp_nin, con_names, hn, v1, isnC, n1]
          refine ⟨gr, ?_⟩
          show D.tup [.str "set", .str (T x), vlO (some v)] = .tup [.str "set", .str (nmS m), vlD v]
          rw [hxm]
          try rfl
    | x :: y :: z :: r =>
      rw [tw]
      have h2 : ¬ ((r.length : Int) + 1 + 1 + 1 = 2) := by omega
      have h2b : ((r.length : Int) + 1 + 1 + 1 == 2) = false := beq_eq_false_iff_ne.mpr h2
      simp [hiSet, exs, exe, ev, evs, kind_str, k_set, hs, hL, ne_data, D.ok, D.dep, D.eqv, strL, h2, h2b]
      exact ⟨gr, rfl⟩
  rw [hi_body, exs_ife_f (g' := g) (by simp [ev, eq_data, str_ok, k_break, T_beq, T_inj, hb, eq_T])]
  by_cases h1 : cutC a none (some 3) = cIf
  · by_cases h2 : cutC a (some (-1)) none = [':']
    · have hif : isIfC a = true := by unfold isIfC; rw [decide_eq_true h1, decide_eq_true h2]; try rfl
      obtain ⟨v, g1, e1, q1, rfl⟩ := (test_in_ok n g (a := cutC a (some 3) (some (-1))) (by have := cut_le a (some 3) (some (-1)); omega)).to
      have r : rdHd a = (rdTs (cutC a (some 3) (some (-1)))).map .ifs := by unfold rdHd; rw [if_neg hb, if_pos hif]
      rw [r, exs_ife_t (g' := g) (by simp [hiB, ev, isnC, c1, c2, eq_data, str_ok, k_if, k_col, T_inj, T_beq, eq_T, h1, h2])]
      simp [hiIf, exs, exe, ev, evs, isnC, c3, str_ok, e1, ts_isNon]
      cases rdTs (cutC a (some 3) (some (-1))) <;> simp [hdO, hdD, tsO, q1]
    · have hif : ¬ isIfC a = true := by unfold isIfC; rw [decide_eq_false h2]; simp
      rw [exs_ife_f (g' := g) (by simp [hiB, ev, isnC, c1, c2, eq_data, str_ok, k_if, k_col, T_inj, T_beq, eq_T, h1, h2])]
      exact setc hif
  · have hif : ¬ isIfC a = true := by unfold isIfC; rw [decide_eq_false h1]; simp
    rw [exs_ife_f (g' := g) (by simp [hiB, ev, isnC, c1, c2, eq_data, str_ok, k_if, k_col, T_inj, T_beq, eq_T, h1])]
    exact setc hif
end UkW
end
section
set_option Elab.async false
set_option linter.all false
set_option maxRecDepth 100000
set_option autoImplicit false
set_option maxHeartbeats 1000000
namespace UkW
open Uk
open Mac (Wo Th Ot Nm Bs Pv Vl Wd Ts Sm Bk)
/-! ## Lines -/
theorem fn_lini : P.fn "Lines" "__init__" = some d_LinesU_initU := by rfl
theorem fn_stop : P.fn "Lines" "stop" = some d_Lines_stop := by rfl
theorem fn_here : P.fn "Lines" "here" = some d_Lines_here := by rfl
theorem fn_need : P.fn "Lines" "need" = some d_Lines_need := by rfl
theorem fn_rdblk : P.fn "" "read_block" = some d_read_block := by rfl
theorem fn_read : P.fn "" "read" = some d_read := by rfl
theorem con_wide : P.con "WIDE" = some (.int 4) := by rfl
theorem con_first : P.con "FIRST_LINE" = some (.str "for item in items:") := by rfl
theorem ln_cls : P.cls "Lines" = true := by rfl
theorem ln_p (f : String) (h : f = "rows_left" ∨ f = "place" ∨ f = "stop" ∨ f = "here" ∨ f = "need") : P.prop "Lines" f = false := by
  rcases h with h | h | h | h | h <;> subst h <;> rfl
theorem ln_f1 : P.fld "Lines" "rows_left" = true := by rfl
theorem ln_f2 : P.fld "Lines" "place" = true := by rfl
theorem ln_exn : P.exn "InvalidText" = some (some "line") := by rfl
def linesO (r p : Nat) : O := .ins "Lines" [("rows_left", .ref r), ("place", .int p)]
structure LinesAt (g : G) (a r : Nat) (rows : List Cs) (p : Nat) : Prop where
  ins : g[a]? = some (linesO r p)
  row : g[r]? = some (.lst (strL rows))
  ne : a ≠ r
  len : ∀ x ∈ rows, x.length ≤ 1000000
  cap : rows.length ≤ 1000000
  le : p ≤ rows.length
def badT (k : Nat) : Exn := ⟨"InvalidText", [("line", .int k)]⟩
def blC (d : Nat) : Cs := List.replicate (4 * d) ' '
def hereC (d : Nat) : List Cs → Cs
  | [] => []
  | r :: _ => if cutC r none (some ((4 * d : Nat) : Int)) = blC d ∧ ¬ cutC r (some ((4 * d : Nat) : Int)) (some ((4 * d : Nat) + 1 : Int)) = [' '] then cutC r (some ((4 * d : Nat) : Int)) none else []
theorem LinesAt.place {g : G} {a r p : Nat} {rows : List Cs} (h : LinesAt g a r rows p) (c1 c2 cu) : attr ⟨P, c1, c2, cu⟩ (.ref a) "place" g = .ok (.int p) g := att_ref (c := ⟨P, c1, c2, cu⟩) h.ins ln_cls (ln_p _ (by simp)) ln_f2 rfl
theorem LinesAt.rows {g : G} {a r p : Nat} {rows : List Cs} (h : LinesAt g a r rows p) (c1 c2 cu) : attr ⟨P, c1, c2, cu⟩ (.ref a) "rows_left" g = .ok (.ref r) g := att_ref (c := ⟨P, c1, c2, cu⟩) h.ins ln_cls (ln_p _ (by simp)) ln_f1 rfl
theorem LinesAt.kind {g : G} {a r p : Nat} {rows : List Cs} (h : LinesAt g a r rows p) {m : String} (hm : m = "stop" ∨ m = "here" ∨ m = "need") : kindOf P (.ref a) m g = some (.ins "Lines") := by
  refine kind_ins h.ins ?_ ln_cls (ln_p _ (by rcases hm with h | h | h <;> simp [h])) ?_
  · rcases hm with h | h | h <;> subst h <;> rfl
  · rcases hm with h | h | h <;> subst h <;> rfl
theorem stop_ok (n : Nat) {g : G} {a r p : Nat} {rows : List Cs} (h : LinesAt g a r rows p) : call P (n + 1) "Lines" "stop" [.ref a] g = .exc (badT (p + 1)) g := by
  rw [call_run fn_stop rfl]
  have h1 := h.place (call P n) (call P (n - 1)) none
  simp [d_Lines_stop, exs, exe, ev, evs, h1, ln_exn, badT]
theorem rep_bl (d : Nat) : ∀ k, rep ([' '] : Cs) k = List.replicate k ' '
  | 0 => rfl
  | k + 1 => by
    show [' '] ++ rep [' '] k = _
    rw [rep_bl d k]
    try rfl
theorem bl_mul (d : Nat) (hd : d ≤ 200) (g : G) : binop .mul (.str " ") (.int (4 * (d : Int))) g = .ok (.str (T (blC d))) g := by
  show (if 0 ≤ (4 * (d : Int)) ∧ (4 * (d : Int)) ≤ 1000 ∧ (" " : String).length ≤ 1000 then R.ok (D.str (String.ofList (rep (" " : String).toList (4 * (d : Int)).toNat))) g else .bad) = _
  rw [if_pos ⟨by omega, by omega, by decide⟩]
  have : (4 * (d : Int)).toNat = 4 * d := by omega
  rw [this, k_bl, T_list, rep_bl d]
  try rfl
theorem bl_len (d : Nat) : (blC d).length = 4 * d := List.length_replicate
theorem bi_lenS (c : Cx) (a : Cs) (g : G) (h : a.length ≤ 1000000) : builtin c .len [.str (T a)] g = .ok (.int a.length) g := by
  show lenOf c (.str (T a)) g = _
  unfold lenOf
  simp only [T_len]
  first | rfl | exact if_pos (by rw [line_is]; omega)
theorem here_ok (n : Nat) {g : G} {a r p : Nat} {rows : List Cs} (h : LinesAt g a r rows p) {d : Nat} (hd : d ≤ 200) : call P (n + 1) "Lines" "here" [.ref a, .int d] g = .ok (.str (T (hereC d (rows.drop p)))) g := by
  rw [call_run fn_here rfl]
  have h1 := h.place (call P n) (call P (n - 1)) none
  have h2 := h.rows (call P n) (call P (n - 1)) none
  have hL := len_ref (c := ⟨P, call P n, call P (n - 1), none⟩) h.row
  have hLs : (strL rows).length = rows.length := List.length_map ..
  rw [hLs] at hL
  have hm : binop .mul (.int 4) (.int (d : Int)) g = .ok (.int (4 * (d : Int))) g := mul_small _ _ _ (by omega)
  have hb : binop .mul (.str (T [' '])) (.int (4 * (d : Int))) g = .ok (.str (T (blC d))) g := bl_mul d hd g
  by_cases hp : rows.length ≤ p
  · rw [List.drop_eq_nil_of_le hp]
    have hp2 : (rows.length : Int) ≤ p := by omega
    simp [d_Lines_here, exs, exe, ev, evs, con_wide, hm, k_bl, hb, h1, h2, hL, hp, hp2, hereC]
    try rfl
  · have hpl : p < rows.length := by omega
    have hp2 : ¬ (rows.length : Int) ≤ p := by omega
    have e : rows.drop p = rows[p] :: rows.drop (p + 1) := List.drop_eq_getElem_cons hpl
    have hx : getIx (.ref r) (.int (p : Int)) g = .ok (.str (T rows[p])) g := by
      rw [getIx_ref h.row]
      have : atI (strL rows) (p : Int) = some (.str (T rows[p])) := by
        unfold atI sIx
        rw [if_pos (by omega), if_pos (by rw [hLs]; omega)]
        show (strL rows)[(p : Int).toNat]? = _
        rw [Int.toNat_natCast]
        unfold strL
        rw [List.getElem?_map, List.getElem?_eq_getElem hpl]
        try rfl
      rw [this]
      try rfl
    rw [e]
    have hl : (rows[p]).length ≤ 1000000 := h.len _ (List.getElem_mem hpl)
    generalize rows[p] = x at hx hl
    have c1 := cut_ok x none (some ((4 * d : Nat) : Int)) g hl
    have c2 := cut_ok x (some ((4 * d : Nat) : Int)) (some ((4 * d : Nat) + 1 : Int)) g hl
    have c3 := cut_ok x (some ((4 * d : Nat) : Int)) none g hl
    have lb := bi_lenS ⟨P, call P n, call P (n - 1), none⟩ (blC d) g (by rw [bl_len]; omega)
    rw [bl_len] at lb
    generalize hn4 : ((4 * d : Nat) : Int) = m at c1 c2 c3 lb
    simp only [hereC, hn4]
    by_cases h3 : cutC x none (some m) = blC d
    · by_cases h4 : cutC x (some m) (some (m + 1)) = [' ']
      · simp [d_Lines_here, exs, exe, ev, evs, con_wide, hm, hb, h1, h2, hL, hp2, hx, isnC, lb, c1, c2, c3, k_bl, ne_data, eq_data, T_inj, T_beq, eq_T, h3, h4]
        try rfl
      · simp [d_Lines_here, exs, exe, ev, evs, con_wide, hm, hb, h1, h2, hL, hp2, hx, isnC, lb, c1, c2, c3, k_bl, ne_data, eq_data, T_inj, T_beq, eq_T, h3, h4]
    · simp [d_Lines_here, exs, exe, ev, evs, con_wide, hm, hb, h1, h2, hL, hp2, hx, isnC, lb, c1, c2, c3, k_bl, ne_data, eq_data, T_inj, T_beq, eq_T, h3]
      try rfl
theorem need_ok (n : Nat) {g : G} {a r p : Nat} {rows : List Cs} (h : LinesAt g a r rows p) {d : Nat} (hd : d ≤ 200) {t : Cs} (ht : t ≠ []) : call P (n + 2) "Lines" "need" [.ref a, .str (T t), .int d] g = if hereC d (rows.drop p) = t then .ok .non (g.set a (linesO r (p + 1))) else .exc (badT (p + 1)) g := by
  rw [call_run fn_need rfl]
  have h1 := h.place (call P (n + 1)) (call P n) none
  have k1 := h.kind (m := "here") (by simp)
  have k2 := h.kind (m := "stop") (by simp)
  have e1 := here_ok n h hd
  have e2 := stop_ok n h
  have f1 := fld_ref h.ins ln_cls ln_f2 (by simp) (.int ((p : Int) + 1))
  have f2 : putF "place" (.int ((p : Int) + 1)) [("rows_left", .ref r), ("place", .int (p : Int))] = [("rows_left", .ref r), ("place", .int ((p + 1 : Nat) : Int))] := rfl
  rw [f2] at f1
  by_cases hh : hereC d (rows.drop p) = t
  · rw [if_pos hh]
    simp [d_Lines_need, exs, exe, ev, evs, k1, e1, ne_data, eq_T, T_inj, hh, h1, f1, linesO]
  · rw [if_neg hh]
    simp [d_Lines_need, exs, exe, ev, evs, k1, k2, e1, e2, ne_data, eq_T, T_inj, hh, h1, f1, linesO]
theorem here_lt {d : Nat} {rows : List Cs} {p : Nat} (h : hereC d (rows.drop p) ≠ []) : p < rows.length := by
  by_cases hp : p < rows.length
  · exact hp
  · rw [List.drop_eq_nil_of_le (by omega)] at h
    exact absurd rfl h
/-- all else stays -/
def Fa (S : List Nat) (g g' : G) : Prop := g.length ≤ g'.length ∧ ∀ (j : Nat) (o : O), j ∉ S → g[j]? = some o → g'[j]? = some o
theorem Fa.refl (S : List Nat) (g : G) : Fa S g g := ⟨Nat.le_refl _, fun _ _ _ h => h⟩
theorem Fa.trans {S : List Nat} {g1 g2 g3 : G} (h : Fa S g1 g2) (k : Fa S g2 g3) : Fa S g1 g3 := ⟨Nat.le_trans h.1 k.1, fun j o hj e => k.2 j o hj (h.2 j o hj e)⟩
theorem Fa.gr {S : List Nat} {g g' : G} (h : Gr g g') : Fa S g g' := ⟨h.len, fun _ _ _ e => h.get e⟩
theorem Fa.set {S : List Nat} {a : Nat} (h : a ∈ S) (g : G) (o : O) : Fa S g (g.set a o) := ⟨by simp, fun j o' hj e => set_ne e fun e2 => hj (e2 ▸ h)⟩
theorem Fa.more {S S' : List Nat} {g g' : G} (h : Fa S g g') (k : ∀ j ∈ S, j ∈ S') : Fa S' g g' := ⟨h.1, fun j o hj e => h.2 j o (fun h2 => hj (k j h2)) e⟩
/-- what is new may change -/
theorem Fa.new {S S' : List Nat} {g0 g g' : G} (h0 : Gr g0 g) (h : Fa S' g g') (k : ∀ j ∈ S', j ∈ S ∨ g0.length ≤ j) : Fa S g0 g' := ⟨Nat.le_trans h0.len h.1, fun j o hj e => h.2 j o (fun h2 => by
  rcases k j h2 with h3 | h3
  · exact hj h3
  · have := get_lt e; omega) (h0.get e)⟩
theorem LinesAt.gr {g g' : G} {a r p : Nat} {rows : List Cs} (h : LinesAt g a r rows p) (k : Gr g g') : LinesAt g' a r rows p := ⟨k.get h.ins, k.get h.row, h.ne, h.len, h.cap, h.le⟩
theorem LinesAt.next {g : G} {a r p : Nat} {rows : List Cs} (h : LinesAt g a r rows p) (k : p < rows.length) : LinesAt (g.set a (linesO r (p + 1))) a r rows (p + 1) := ⟨get_set h.ins, set_ne h.row (Ne.symm h.ne), h.ne, h.len, h.cap, k⟩
theorem LinesAt.put {g : G} {a r p : Nat} {rows : List Cs} (h : LinesAt g a r rows p) {i : Nat} (h1 : i ≠ a) (h2 : i ≠ r) (o : O) : LinesAt (g.set i o) a r rows p := ⟨set_ne h.ins (Ne.symm h1), set_ne h.row (Ne.symm h2), h.ne, h.len, h.cap, h.le⟩
end UkW
end
section
set_option Elab.async false
set_option linter.all false
set_option maxRecDepth 100000
set_option autoImplicit false
set_option maxHeartbeats 1000000
namespace UkW
open Uk
open Mac (Wo Th Ot Nm Bs Pv Vl Wd Ts Sm Bk)
/-! ## Blocks, read -/
inductive Out (α : Type) where | ok (x : α) (rest : List Cs) | no (rest : List Cs) | deep
def Out.bind {α β : Type} : Out α → (α → List Cs → Out β) → Out β
  | .ok x r, k => k x r
  | .no r, _ => .no r
  | .deep, _ => .deep
def rdSt (blk : List Cs → Out Bk) (d : Nat) (h : Hd) (rest : List Cs) : Out Sm := match h with
  | .brk => .ok .brk rest.tail
  | .set x v => .ok (.set x v) rest.tail
  | .ifs t => (blk rest.tail).bind fun y r1 => if hereC d r1 = cElse then (blk r1.tail).bind fun z r2 => .ok (.ifs t y z) r2 else .no r1
def rdMany (blk : List Cs → Out Bk) (d : Nat) : Nat → List Cs → Out Bk
  | 0, _ => .deep
  | k + 1, rest => match rdHd (hereC d rest) with
    | none => .ok .nil rest
    | some h => (rdSt blk d h rest).bind fun s r => (rdMany blk d k r).bind fun b r => .ok (.cons s b) r
def rdBlk : Nat → Nat → List Cs → Out Bk
  | 0, _, _ => .deep
  | n + 1, d, rest => if hereC d rest = cPass then .ok .nil rest.tail else (rdMany (rdBlk n (d + 1)) d (rest.length + 1) rest).bind fun b r => match b with
    | .nil => .no r
    | b => .ok b r
theorem Res.to {α : Type} {r : R α} {Q : α → G → Prop} {X : Exn → G → Prop} (h : Res r Q X) : (∃ a g, r = .ok a g ∧ Q a g) ∨ ∃ x g, r = .exc x g ∧ X x g := by
  cases r with
  | ok a g => exact .inl ⟨a, g, rfl, h⟩
  | exc x g => exact .inr ⟨x, g, rfl, h⟩
  | bad => exact h.elim
theorem here_le {rows : List Cs} (hl : ∀ x ∈ rows, x.length ≤ 1000000) (d p : Nat) : (hereC d (rows.drop p)).length ≤ 1000000 := by
  cases h : rows.drop p with
  | nil => exact Nat.zero_le _
  | cons x r =>
    have hx : x ∈ rows := List.mem_of_mem_drop (i := p) (by rw [h]; exact List.mem_cons_self ..)
    unfold hereC
    dsimp only
    split
    · exact Nat.le_trans (cut_le _ _ _) (hl x hx)
    · exact Nat.zero_le _
theorem rdHd_ne {a : Cs} {h : Hd} (e : rdHd a = some h) : a ≠ [] := by
  rintro rfl
  have : rdHd [] = none := by decide +kernel
  rw [this] at e
  cases e
def rbTest : Uk.E := .cmp .notn (.call "head_in" (.c (.met (.loc 0) "here" (.c (.loc 1) .n)) .n)) (.cst .non)
def rbIf : Ss := .c (.asg 4 (.call "read_block" (.c (.loc 0) (.c (.bin .add (.loc 1) (.cst (.int 1))) .n)))) (.c (.ex (.met (.loc 0) "need" (.c (.cst (.str "else:")) (.c (.loc 1) .n)))) (.c (.asg 3 (.bin .add (.loc 3) (.tup (.c (.loc 4) (.c (.call "read_block" (.c (.loc 0) (.c (.bin .add (.loc 1) (.cst (.int 1))) .n))) .n))))) .n))
def rbApp : Ss := .c (.ex (.met (.loc 2) "append" (.c (.loc 3) .n))) .n
def rbAsk : Uk.E := .cmp .eq (.ix (.loc 3) (.cst (.int 0))) (.cst (.str "if"))
def rbBody : Ss := .c (.asg 3 (.call "head_in" (.c (.met (.loc 0) "here" (.c (.loc 1) .n)) .n))) (.c (.ex (.met (.loc 0) "need" (.c (.met (.loc 0) "here" (.c (.loc 1) .n)) (.c (.loc 1) .n)))) (.c (.ife rbAsk rbIf .n) rbApp))
def rbEnd : Ss := .c (.ife (.cmp .eq (.bi .len (.c (.loc 2) .n)) (.cst (.int 0))) (.c (.ex (.met (.loc 0) "stop" .n)) .n) .n) (.c (.ret (.bi .tuple (.c (.loc 2) .n))) .n)
def rbPass : Ss := .c (.ex (.met (.loc 0) "need" (.c (.cst (.str "pass")) (.c (.loc 1) .n)))) (.c (.ret (.tup .n)) .n)
theorem rb_body : d_read_block.body = .c (.ife (.cmp .eq (.met (.loc 0) "here" (.c (.loc 1) .n)) (.cst (.str "pass"))) rbPass .n) (.c (.asg 2 (.lst .n)) (.c (.while_ rbTest rbBody) rbEnd)) := by rfl
/-- a call of read_block, told -/
def RbSays (g : G) (a r : Nat) (rows : List Cs) (o : Out Bk) (x : R D) : Prop := Res x (fun v g' => ∃ b q, o = .ok b (rows.drop q) ∧ v = .tup (bkD b) ∧ LinesAt g' a r rows q ∧ Fa [a] g g') fun x g' => ∃ q, o = .no (rows.drop q) ∧ q ≤ rows.length ∧ x = badT (q + 1) ∧ Fa [a] g g'
theorem tail_drop {α : Type} (l : List α) (p : Nat) : (l.drop p).tail = l.drop (p + 1) := by rw [List.tail_drop]
theorem rb_turn {n d : Nat} (hd : d + 1 ≤ 200) {a r : Nat} {rows : List Cs} {blk : List Cs → Out Bk}
    (IH : ∀ g p, LinesAt g a r rows p → blk (rows.drop p) ≠ .deep → RbSays g a r rows (blk (rows.drop p)) (call P (n + 4) "" "read_block" [.ref a, .int ((d : Int) + 1)] g))
    {g : G} {p f : Nat} {acc : List D} (h : LinesAt g a r rows p) (hf : g[f]? = some (.lst acc)) (fa : f ≠ a) (fr : f ≠ r) (hacc : acc.length < 10000000) {hh : Hd} (e : rdHd (hereC d (rows.drop p)) = some hh) (x3 x4 : Option D) (nd : rdSt blk d hh (rows.drop p) ≠ .deep) :
    Res (exs ⟨P, call P (n + 4), call P (n + 3), none⟩ rbBody [some (.ref a), some (.int (d : Int)), some (.ref f), x3, x4] g) (fun z g' => z.2 = .nx ∧ ∃ s q y3 y4, rdSt blk d hh (rows.drop p) = .ok s (rows.drop q) ∧ z.1 = [some (.ref a), some (.int (d : Int)), some (.ref f), y3, y4] ∧ LinesAt g' a r rows q ∧ g'[f]? = some (.lst (acc ++ [smD s])) ∧ Fa [a, f] g g') fun x g' => ∃ q, rdSt blk d hh (rows.drop p) = .no (rows.drop q) ∧ q ≤ rows.length ∧ x = badT (q + 1) ∧ Fa [a, f] g g' := by
  have k1 := fun {g : G} {p : Nat} (h : LinesAt g a r rows p) => h.kind (m := "here") (by simp)
  have k2 := fun {g : G} {p : Nat} (h : LinesAt g a r rows p) => h.kind (m := "need") (by simp)
  have hne := rdHd_ne e
  have hl := here_le h.len d p
  have e1 := here_ok (n + 3) h (d := d) (by omega)
  obtain ⟨v, g1, e2, q1, rfl⟩ := (head_in_ok n g hl).to
  rw [e] at e2
  have h1 := h.gr q1
  have e3 := here_ok (n + 3) h1 (d := d) (by omega)
  have e4 := need_ok (n + 2) h1 (d := d) (by omega) hne
  rw [if_pos rfl] at e4
  have hp := here_lt hne
  have h2 := h1.next hp
  have hf1 := q1.get hf
  have hf2 : (g1.set a (linesO r (p + 1)))[f]? = some (.lst acc) := set_ne hf1 fa
  have fa2 : Fa [a, f] g (g1.set a (linesO r (p + 1))) := (Fa.gr q1).trans (.set (by simp) _ _)
  generalize g1.set a (linesO r (p + 1)) = g2 at e4 h2 hf2 fa2
  have st : ∀ (y3 : D), exs ⟨P, call P (n + 4), call P (n + 3), none⟩ rbBody [some (.ref a), some (.int (d : Int)), some (.ref f), x3, x4] g = exs ⟨P, call P (n + 4), call P (n + 3), none⟩ (.c (.ife rbAsk rbIf .n) rbApp) [some (.ref a), some (.int (d : Int)), some (.ref f), some (hdO (some hh)), x4] g2 := by
    intro _
    simp [rbBody, exs, exe, ev, evs, k1 h, k1 h1, k2 h1, e1, e2, e3, e4]
  rw [st .non]
  have app : ∀ (y : D) (y4 : Option D) {g3 : G}, g3[f]? = some (.lst acc) → exs ⟨P, call P (n + 4), call P (n + 3), none⟩ rbApp [some (.ref a), some (.int (d : Int)), some (.ref f), some y, y4] g3 = .ok ([some (.ref a), some (.int (d : Int)), some (.ref f), some y, y4], .nx) (g3.set f (.lst (acc ++ [y]))) := by
    intro y y4 g3 hf3
    have ha := app_ref hf3 (by rw [line_is]; omega) y
    simp [rbApp, exs, exe, ev, evs, kind_lst hf3, ha]
  have fin : ∀ (s : Sm) (y4 : Option D) (q : Nat) {g3 : G}, g3[f]? = some (.lst acc) → LinesAt g3 a r rows q → Fa [a, f] g g3 → rdSt blk d hh (rows.drop p) = .ok s (rows.drop q) → Res (exs ⟨P, call P (n + 4), call P (n + 3), none⟩ rbApp [some (.ref a), some (.int (d : Int)), some (.ref f), some (smD s), y4] g3) (fun z g' => z.2 = .nx ∧ ∃ s q y3 y4, rdSt blk d hh (rows.drop p) = .ok s (rows.drop q) ∧ z.1 = [some (.ref a), some (.int (d : Int)), some (.ref f), y3, y4] ∧ LinesAt g' a r rows q ∧ g'[f]? = some (.lst (acc ++ [smD s])) ∧ Fa [a, f] g g') fun x g' => ∃ q, rdSt blk d hh (rows.drop p) = .no (rows.drop q) ∧ q ≤ rows.length ∧ x = badT (q + 1) ∧ Fa [a, f] g g' := by
    intro s y4 q g3 hf3 hL hF he
    rw [app _ _ hf3]
    exact ⟨rfl, s, q, _, _, he, rfl, hL.put fa fr _, get_set hf3, hF.trans (.set (by simp) _ _)⟩
  cases hh with
  | brk =>
    rw [exs_ife_f (g' := g2) (by simp [rbAsk, ev, hdO, hdD, eq_data])]
    exact fin .brk x4 (p + 1) hf2 h2 fa2 (by show Out.ok _ (rows.drop p).tail = _; rw [tail_drop])
  | set x v =>
    rw [exs_ife_f (g' := g2) (by simp [rbAsk, ev, hdO, hdD, eq_data])]
    exact fin (.set x v) x4 (p + 1) hf2 h2 fa2 (by show Out.ok _ (rows.drop p).tail = _; rw [tail_drop])
  | ifs t =>
    rw [exs_ife_t (g' := g2) (by simp [rbAsk, ev, hdO, hdD, eq_data])]
    have u : rdSt blk d (.ifs t) (rows.drop p) = (blk (rows.drop (p + 1))).bind fun y r1 => if hereC d r1 = cElse then (blk r1.tail).bind fun z r2 => .ok (.ifs t y z) r2 else .no r1 := by
      rw [← tail_drop]; try rfl
    rw [u] at nd fin ⊢
    have nd1 : blk (rows.drop (p + 1)) ≠ .deep := fun h0 => nd (by rw [h0]; rfl)
    rcases (IH g2 (p + 1) h2 nd1).to with ⟨v, g3, e5, b, q, o1, rfl, h3, f3⟩ | ⟨x, g3, e5, q, o1, hq, rfl, f3⟩
    · have hf3 := f3.2 f _ (by simpa using fa) hf2
      have fa3 := fa2.trans (f3.more (by simp))
      rw [o1] at nd fin ⊢
      have e6 := need_ok (n + 2) h3 (d := d) (by omega) (t := cElse) (by decide)
      by_cases hE : hereC d (rows.drop q) = cElse
      · rw [if_pos hE] at e6
        have hq := here_lt (d := d) (rows := rows) (p := q) (by rw [hE]; decide)
        have h4 := h3.next hq
        have hf4 : (g3.set a (linesO r (q + 1)))[f]? = some (.lst acc) := set_ne hf3 fa
        have fa4 : Fa [a, f] g (g3.set a (linesO r (q + 1))) := fa3.trans (.set (by simp) _ _)
        generalize g3.set a (linesO r (q + 1)) = g4 at e6 h4 hf4 fa4
        have v1 : (Out.ok b (rows.drop q)).bind (fun y r1 => if hereC d r1 = cElse then (blk r1.tail).bind fun z r2 => Out.ok (Sm.ifs t y z) r2 else .no r1) = (blk (rows.drop (q + 1))).bind fun z r2 => .ok (.ifs t b z) r2 := by
          show (if hereC d (rows.drop q) = cElse then _ else _) = _
          rw [if_pos hE, tail_drop]
        rw [v1] at nd fin ⊢
        have nd2 : blk (rows.drop (q + 1)) ≠ .deep := fun h0 => nd (by rw [h0]; rfl)
        rcases (IH g4 (q + 1) h4 nd2).to with ⟨v, g5, e7, b2, q2, o2, rfl, h5, f5⟩ | ⟨x, g5, e7, q2, o2, hq2, rfl, f5⟩
        · have hf5 := f5.2 f _ (by simpa using fa) hf4
          have fa5 := fa4.trans (f5.more (by simp))
          rw [o2] at fin ⊢
          have := fin (.ifs t b b2) (some (.tup (bkD b))) q2 hf5 h5 fa5 rfl
          have run : exs ⟨P, call P (n + 4), call P (n + 3), none⟩ rbIf [some (.ref a), some (.int (d : Int)), some (.ref f), some (hdO (some (.ifs t))), x4] g2 = .ok ([some (.ref a), some (.int (d : Int)), some (.ref f), some (smD (.ifs t b b2)), some (.tup (bkD b))], .nx) g5 := by
            simp [rbIf, exs, exe, ev, evs, e5, k2 h3, k_else, e6, e7, hdO, hdD, smD]
          rw [run]
          exact this
        · rw [o2]
          have run : exs ⟨P, call P (n + 4), call P (n + 3), none⟩ rbIf [some (.ref a), some (.int (d : Int)), some (.ref f), some (hdO (some (.ifs t))), x4] g2 = .exc (badT (q2 + 1)) g5 := by
            simp [rbIf, exs, exe, ev, evs, e5, k2 h3, k_else, e6, e7, hdO, hdD, smD]
          rw [run]
          exact ⟨q2, rfl, hq2, rfl, fa4.trans (f5.more (by simp))⟩
      · rw [if_neg hE] at e6
        have v1 : (Out.ok b (rows.drop q)).bind (fun y r1 => if hereC d r1 = cElse then (blk r1.tail).bind fun z r2 => Out.ok (Sm.ifs t y z) r2 else .no r1) = .no (rows.drop q) := by
          show (if hereC d (rows.drop q) = cElse then _ else _) = _
          rw [if_neg hE]
        rw [v1]
        have run : exs ⟨P, call P (n + 4), call P (n + 3), none⟩ rbIf [some (.ref a), some (.int (d : Int)), some (.ref f), some (hdO (some (.ifs t))), x4] g2 = .exc (badT (q + 1)) g3 := by
          simp [rbIf, exs, exe, ev, evs, e5, k2 h3, k_else, e6, hdO, hdD, smD]
        rw [run]
        exact ⟨q, rfl, h3.le, rfl, fa3⟩
    · rw [o1]
      have run : exs ⟨P, call P (n + 4), call P (n + 3), none⟩ rbIf [some (.ref a), some (.int (d : Int)), some (.ref f), some (hdO (some (.ifs t))), x4] g2 = .exc (badT (q + 1)) g3 := by
        simp [rbIf, exs, exe, ev, evs, e5]
      rw [run]
      exact ⟨q, rfl, hq, rfl, fa2.trans (f3.more (by simp))⟩
theorem while_step (c : Cx) (m : Nat) (δ : Env) (g : G) {g' : G} {b : Bool} (h : ev c rbTest δ g = .ok (.bl b) g') : whileL (ev c rbTest) (exs c rbBody) (m + 1) δ g = if b = true then (exs c rbBody δ g').bind fun z g => match z with
      | (δ, .nx) => whileL (ev c rbTest) (exs c rbBody) m δ g
      | z => .ok z g else .ok (δ, .nx) g' := by
  have u : whileL (ev c rbTest) (exs c rbBody) (m + 1) δ g = (ev c rbTest δ g).bind fun x g => match x with
    | .bl false => .ok (δ, .nx) g
    | .bl true => (exs c rbBody δ g).bind fun z g => match z with
      | (δ, .nx) => whileL (ev c rbTest) (exs c rbBody) m δ g
      | z => .ok z g
    | _ => .bad := by
    conv => lhs; unfold whileL
    try rfl
  rw [u, h]
  cases b
  · rw [if_neg (by simp)]; try rfl
  · rw [if_pos rfl]; try rfl
theorem hd_isNon (h : Option Hd) : (hdO h).isNon = h.isNone := by cases h <;> rfl
theorem out_bind {α β : Type} {o : Out α} {k : α → List Cs → Out β} (h : o.bind k ≠ .deep) : o ≠ .deep := fun e => h (by rw [e]; rfl)
theorem rb_many {n d : Nat} (hd : d + 1 ≤ 200) {a r : Nat} {rows : List Cs} {blk : List Cs → Out Bk}
    (IH : ∀ g p, LinesAt g a r rows p → blk (rows.drop p) ≠ .deep → RbSays g a r rows (blk (rows.drop p)) (call P (n + 4) "" "read_block" [.ref a, .int ((d : Int) + 1)] g))
    {f : Nat} (fa : f ≠ a) (fr : f ≠ r) : ∀ (k m : Nat) (hm : k ≤ m) (g : G) (p : Nat) (acc : List D) (h : LinesAt g a r rows p) (hf : g[f]? = some (.lst acc)) (hacc : acc.length + k < 10000000) (x3 x4 : Option D) (nd : rdMany blk d k (rows.drop p) ≠ .deep),
    Res (whileL (ev ⟨P, call P (n + 4), call P (n + 3), none⟩ rbTest) (exs ⟨P, call P (n + 4), call P (n + 3), none⟩ rbBody) m [some (.ref a), some (.int (d : Int)), some (.ref f), x3, x4] g) (fun z g' => z.2 = .nx ∧ ∃ b q y3 y4, rdMany blk d k (rows.drop p) = .ok b (rows.drop q) ∧ z.1 = [some (.ref a), some (.int (d : Int)), some (.ref f), y3, y4] ∧ LinesAt g' a r rows q ∧ g'[f]? = some (.lst (acc ++ bkD b)) ∧ Fa [a, f] g g' ∧ (bkD b).length ≤ k) fun x g' => ∃ q, rdMany blk d k (rows.drop p) = .no (rows.drop q) ∧ q ≤ rows.length ∧ x = badT (q + 1) ∧ Fa [a, f] g g'
  | 0, _, _, _, _, _, _, _, _, _, _, nd => absurd rfl nd
  | k + 1, 0, hm, _, _, _, _, _, _, _, _, _ => absurd hm (by omega)
  | k + 1, m + 1, hm, g, p, acc, h, hf, hacc, x3, x4, nd => by
    have k1 := h.kind (m := "here") (by simp)
    have hl := here_le h.len d p
    have e1 := here_ok (n + 3) h (d := d) (by omega)
    obtain ⟨v, g1, e2, q1, rfl⟩ := (head_in_ok n g hl).to
    have h1 := h.gr q1
    have hf1 := q1.get hf
    have t : ev ⟨P, call P (n + 4), call P (n + 3), none⟩ rbTest [some (.ref a), some (.int (d : Int)), some (.ref f), x3, x4] g = .ok (.bl (rdHd (hereC d (rows.drop p))).isSome) g1 := by
      simp [rbTest, ev, evs, k1, e1, e2, hd_isNon]
    rw [while_step _ _ _ _ t]
    cases e : rdHd (hereC d (rows.drop p)) with
    | none =>
      rw [if_neg (by simp)]
      refine ⟨rfl, .nil, p, x3, x4, ?_, rfl, h1, ?_⟩
      · show (match rdHd (hereC d (rows.drop p)) with | none => _ | some h => _) = _
        rw [e]
      · show _ = some (O.lst (acc ++ [])) ∧ _ ∧ _
        rw [List.append_nil]
        exact ⟨hf1, .gr q1, Nat.zero_le _⟩
    | some hh =>
      have u : rdMany blk d (k + 1) (rows.drop p) = (rdSt blk d hh (rows.drop p)).bind fun s r => (rdMany blk d k r).bind fun b r => .ok (.cons s b) r := by
        show (match rdHd (hereC d (rows.drop p)) with | none => _ | some h => _) = _
        rw [e]
      rw [u] at nd ⊢
      rw [if_pos (by rfl), Res_bind]
      have tn := rb_turn hd IH h1 hf1 fa fr (by omega) e x3 x4 (out_bind nd)
      rcases tn.to with ⟨z, g2, e3, hz, s, q, y3, y4, o1, hz2, h2, hf2, f2⟩ | ⟨x, g2, e3, q, o1, hq, hx, f2⟩
      · rw [e3]
        obtain ⟨e5, fl⟩ := z
        have hz : fl = .nx := hz
        have hz2 : e5 = _ := hz2
        subst hz hz2
        rw [o1] at nd ⊢
        have nd2 : rdMany blk d k (rows.drop q) ≠ .deep := out_bind nd
        have := rb_many hd IH fa fr k m (by omega) g2 q (acc ++ [smD s]) h2 hf2 (by simp; omega) y3 y4 nd2
        show Res (whileL _ _ m _ g2) _ _
        refine this.mono ?_ ?_
        · rintro z g3 ⟨hz, b, q2, y3, y4, o2, hz2, h3, hf3, f3, lb⟩
          refine ⟨hz, .cons s b, q2, y3, y4, ?_, hz2, h3, ?_, ((Fa.gr q1).trans f2).trans f3, by simp only [bkD, List.length_cons]; omega⟩
          · show (rdMany blk d k (rows.drop q)).bind _ = _
            rw [o2]
            try rfl
          · rw [hf3, List.append_assoc]
            try rfl
        · rintro x g3 ⟨q2, o2, hq2, hx, f3⟩
          refine ⟨q2, ?_, hq2, hx, ((Fa.gr q1).trans f2).trans f3⟩
          show (rdMany blk d k (rows.drop q)).bind _ = _
          rw [o2]
          try rfl
      · rw [e3, o1]
        exact ⟨q, rfl, hq, hx, (Fa.gr q1).trans f2⟩
theorem bk_nil {b : Bk} (h : (bkD b).length = 0) : b = .nil := by
  cases b with
  | nil => rfl
  | cons s b => simp [bkD] at h
theorem read_block_ok {a r : Nat} {rows : List Cs} : ∀ (n d : Nat) (hd : d + n ≤ 200) (g : G) (p : Nat), LinesAt g a r rows p → rdBlk n d (rows.drop p) ≠ .deep → RbSays g a r rows (rdBlk n d (rows.drop p)) (call P (n + 4) "" "read_block" [.ref a, .int (d : Int)] g)
  | 0, _, _, _, _, _, nd => absurd rfl nd
  | n + 1, d, hd, g, p, h, nd => by
    have IH : ∀ g p, LinesAt g a r rows p → rdBlk n (d + 1) (rows.drop p) ≠ .deep → RbSays g a r rows (rdBlk n (d + 1) (rows.drop p)) (call P (n + 4) "" "read_block" [.ref a, .int ((d : Int) + 1)] g) := fun g p h nd => read_block_ok n (d + 1) (by omega) g p h nd
    refine body_res (n := n + 4) fn_rdblk rfl ?_
    rw [rb_body]
    show Res (exs ⟨P, call P (n + 4), call P (n + 3), none⟩ (.c (.ife (.cmp .eq (.met (.loc 0) "here" (.c (.loc 1) .n)) (.cst (.str "pass"))) rbPass .n) (.c (.asg 2 (.lst .n)) (.c (.while_ rbTest rbBody) rbEnd))) [some (.ref a), some (.int (d : Int)), none, none, none] g) _ _
    have k1 := h.kind (m := "here") (by simp)
    have k2 := h.kind (m := "need") (by simp)
    have e1 := here_ok (n + 3) h (d := d) (by omega)
    have u : rdBlk (n + 1) d (rows.drop p) = if hereC d (rows.drop p) = cPass then .ok .nil (rows.drop p).tail else (rdMany (rdBlk n (d + 1)) d ((rows.drop p).length + 1) (rows.drop p)).bind fun b r => match b with
      | .nil => .no r
      | b => .ok b r := rfl
    rw [u] at nd ⊢
    by_cases hp : hereC d (rows.drop p) = cPass
    · rw [if_pos hp, tail_drop]
      rw [exs_ife_t (g' := g) (by simp [ev, evs, k1, e1, k_pass, eq_data, str_ok, eq_T, T_inj, hp])]
      have e2 := need_ok (n + 2) h (d := d) (by omega) (t := cPass) (by decide)
      rw [if_pos hp] at e2
      have hlt := here_lt (d := d) (rows := rows) (p := p) (by rw [hp]; decide)
      have run : exs ⟨P, call P (n + 4), call P (n + 3), none⟩ rbPass [some (.ref a), some (.int (d : Int)), none, none, none] g = .ok ([some (.ref a), some (.int (d : Int)), none, none, none], .rt (.tup [])) (g.set a (linesO r (p + 1))) := by
        simp [rbPass, exs, exe, ev, evs, k2, k_pass, e2]
      rw [run]
      exact ⟨.nil, p + 1, rfl, rfl, h.next hlt, .set (by simp) _ _⟩
    · rw [if_neg hp] at nd ⊢
      rw [exs_ife_f (g' := g) (by simp [ev, evs, k1, e1, k_pass, eq_data, str_ok, eq_T, T_inj, hp])]
      have hf : (g ++ [.lst []] : G)[g.length]? = some (.lst []) := get_new _ _
      have gr : Gr g (g ++ [.lst []]) := Gr.app _ _
      have hfa : g.length ≠ a := by have := get_lt h.ins; omega
      have hfr : g.length ≠ r := by have := get_lt h.row; omega
      have h1 := h.gr gr
      have run : exs ⟨P, call P (n + 4), call P (n + 3), none⟩ (.c (.asg 2 (.lst .n)) (.c (.while_ rbTest rbBody) rbEnd)) [some (.ref a), some (.int (d : Int)), none, none, none] g = (whileL (ev ⟨P, call P (n + 4), call P (n + 3), none⟩ rbTest) (exs ⟨P, call P (n + 4), call P (n + 3), none⟩ rbBody) most [some (.ref a), some (.int (d : Int)), some (.ref g.length), none, none] (g ++ [.lst []])).bind fun z g => match z with
        | (δ, .nx) => exs ⟨P, call P (n + 4), call P (n + 3), none⟩ rbEnd δ g
        | z => .ok z g := by
        simp [exs, exe, ev, evs]
        try rfl
      rw [run, Res_bind]
      generalize (g ++ [.lst []] : G) = g1 at hf gr h1
      have hlen : (rows.drop p).length ≤ 1000000 := by rw [List.length_drop]; have := h.cap; omega
      have hm : (rows.drop p).length + 1 ≤ most := by unfold most; omega
      have := rb_many (by omega) IH hfa hfr ((rows.drop p).length + 1) most hm g1 p [] h1 hf (by rw [List.length_nil]; omega) none none (out_bind nd)
      rcases this.to with ⟨z, g2, e3, hz, b, q, y3, y4, o1, hz2, h2, hf2, f2, lb⟩ | ⟨x, g2, e3, q, o1, hq, rfl, f2⟩
      · rw [e3, o1]
        obtain ⟨e5, fl⟩ := z
        have hz : fl = .nx := hz
        have hz2 : e5 = _ := hz2
        subst hz hz2
        have hf2 : g2[g.length]? = some (.lst (bkD b)) := hf2
        have fa2 : Fa [a] g g2 := .new gr f2 fun j hj => by
          simp at hj
          rcases hj with rfl | rfl
          · exact .inl (by simp)
          · exact .inr (Nat.le_refl _)
        have hL := len_ref (c := ⟨P, call P (n + 4), call P (n + 3), none⟩) hf2
        have k3 := h2.kind (m := "stop") (by simp)
        have e6 := stop_ok (n + 3) h2
        have hq := h2.le
        show Res (exs ⟨P, call P (n + 4), call P (n + 3), none⟩ rbEnd [some (.ref a), some (.int (d : Int)), some (.ref g.length), y3, y4] g2) _ _
        cases b with
        | nil =>
          have run : exs ⟨P, call P (n + 4), call P (n + 3), none⟩ rbEnd [some (.ref a), some (.int (d : Int)), some (.ref g.length), y3, y4] g2 = .exc (badT (q + 1)) g2 := by
            have hL : builtin ⟨P, call P (n + 4), call P (n + 3), none⟩ .len [.ref g.length] g2 = .ok (.int 0) g2 := hL
            simp [rbEnd, exs, exe, ev, evs, hL, k3, e6]
          rw [run]
          exact ⟨q, rfl, hq, rfl, fa2⟩
        | cons s b =>
          have hlt : (bkD (.cons s b)).length ≤ line := by rw [line_is]; omega
          have run : exs ⟨P, call P (n + 4), call P (n + 3), none⟩ rbEnd [some (.ref a), some (.int (d : Int)), some (.ref g.length), y3, y4] g2 = .ok ([some (.ref a), some (.int (d : Int)), some (.ref g.length), y3, y4], .rt (.tup (bkD (.cons s b)))) g2 := by
            have hB : builtin ⟨P, call P (n + 4), call P (n + 3), none⟩ .tuple [.ref g.length] g2 = .ok (.tup (bkD (.cons s b))) g2 := by
              show orElse (lsOf g2 g.length) _ = _
              rw [lsOf_eq hf2]
              exact newT_ok hlt g2
            have h0 : ¬ (((bkD (.cons s b)).length : Int) = 0) := by simp only [bkD, List.length_cons]; omega
            have h00 : ¬ bkD (.cons s b) = [] := by simp [bkD]
            simp [rbEnd, exs, exe, ev, evs, hL, hB, h0, h00]
          rw [run]
          exact ⟨_, q, rfl, rfl, h2, fa2⟩
      · rw [e3, o1]
        refine ⟨q, rfl, hq, rfl, .new gr f2 fun j hj => ?_⟩
        simp at hj
        rcases hj with rfl | rfl
        · exact .inl (by simp)
        · exact .inr (Nat.le_refl _)
end UkW
end
section
set_option Elab.async false
set_option linter.all false
set_option maxRecDepth 100000
set_option autoImplicit false
set_option maxHeartbeats 1000000
namespace UkW
open Uk
open Mac (Wo Th Ot Nm Bs Pv Vl Wd Ts Sm Bk)
/-! ## Texts, read -/
theorem lini_ok (n : Nat) (g : G) (a r : Nat) (h : g[a]? = some (.ins "Lines" [])) : call P (n + 1) "Lines" "__init__" [.ref a, .ref r] g = .ok .non (g.set a (linesO r 0)) := by
  rw [call_run fn_lini rfl]
  have s1 := fld_ref h ln_cls ln_f1 (by simp) (.ref r)
  have h2 := get_set (o' := .ins "Lines" (putF "rows_left" (.ref r) [])) h
  have s2 := fld_ref h2 ln_cls ln_f2 (by simp [putF]) (.int 0)
  have e : putF "place" (.int 0) (putF "rows_left" (.ref r) []) = [("rows_left", .ref r), ("place", .int 0)] := rfl
  rw [e, List.set_set] at s2
  simp [d_LinesU_initU, exs, exe, ev, evs, s1, s2, linesO]
theorem fa_gr {g g' : G} (h : Fa [] g g') : Gr g g' := by
  refine ⟨g'.drop g.length, ?_⟩
  have : g = g'.take g.length := by
    apply List.ext_getElem?
    intro j
    by_cases hj : j < g.length
    · rw [List.getElem?_take_of_lt hj, h.2 j g[j] (by simp) (List.getElem?_eq_getElem hj), List.getElem?_eq_getElem hj]
    · rw [List.getElem?_eq_none (by omega), List.getElem?_eq_none (by rw [List.length_take]; omega)]
  conv => lhs; rw [← List.take_append_drop g.length g']
  rw [← this]
def lnsC (t : Cs) : List Cs := splL ['\n'] 0 [] t
theorem spl_ne (S : Cs) : ∀ (l acc : Cs) (k : Nat), splL S k acc l ≠ []
  | [], acc, k => by unfold splL; simp
  | c :: r, acc, 0 => by
    unfold splL
    split
    · simp
    · exact spl_ne S r _ 0
  | c :: r, acc, k + 1 => by
    unfold splL
    exact spl_ne S r acc k
/-- what read makes of a text, before the loop is built -/
def rdAll (n : Nat) (t : Cs) : Out Bk :=
  if hereC 0 (lnsC t).dropLast = cFor then (rdBlk n 1 (lnsC t).dropLast.tail).bind fun b rest => if rest ≠ [] ∨ (lnsC t).getLast? ≠ some [] then .no rest else .ok b rest else .no (lnsC t).dropLast
theorem bind_self {α : Type} (r : R α) : (r.bind fun v g => .ok v g) = r := by cases r <;> rfl
def rdTail : Ss := .c (.ife (.or_ (.cmp .lt (.att (.loc 2) "place") (.bi .len (.c (.att (.loc 2) "rows_left") .n))) (.cmp .ne (.ix (.loc 1) (.neg (.cst (.int 1)))) (.cst (.str "")))) (.c (.ex (.met (.loc 2) "stop" .n)) .n) .n) (.c (.ret (.mk "Loop" (.c (.loc 3) .n))) .n)
theorem rd_body : d_read.body = .c (.asg 1 (.met (.loc 0) "split" (.c (.cst (.str "\n")) .n))) (.c (.asg 2 (.mk "Lines" (.c (.cut (.loc 1) (.cst .non) (.neg (.cst (.int 1)))) .n))) (.c (.ex (.met (.loc 2) "need" (.c (.glo "FIRST_LINE") (.c (.cst (.int 0)) .n)))) (.c (.asg 3 (.call "read_block" (.c (.loc 2) (.c (.cst (.int 1)) .n)))) rdTail))) := by rfl
theorem read_ok (n : Nat) (hm : 1 + n ≤ 200) (g : G) {t : Cs} (hl : t.length ≤ 900000) (nd : rdAll n t ≠ .deep) : (∃ b g', Gr g g' ∧ rdAll n t = .ok b [] ∧ call P (n + 5) "" "read" [.str (T t)] g = make ⟨P, call P (n + 4), call P (n + 3), none⟩ "Loop" [.tup (bkD b)] g') ∨ ∃ q g', Gr g g' ∧ rdAll n t = .no ((lnsC t).dropLast.drop q) ∧ q ≤ (lnsC t).dropLast.length ∧ call P (n + 5) "" "read" [.str (T t)] g = .exc (badT (q + 1)) g' := by
  have hs : strM (.str (T t)) "split" [.str (T ['\n'])] g = .ok (.ref g.length) (g ++ [.lst (strL (lnsC t))]) := split_ok g (by omega) (by decide) (by decide)
  have hlen : (lnsC t).length ≤ t.length + 1 := spl_len _ _ _ _
  have hmem : ∀ x ∈ lnsC t, x.length ≤ 1000000 := fun x hx => by have := spl_mem hx; simp at this; omega
  have hne : lnsC t ≠ [] := spl_ne _ _ _ _
  unfold rdAll at nd ⊢
  generalize lnsC t = ps at hs hlen hmem hne nd ⊢
  obtain ⟨rows, z, rfl⟩ : ∃ rows z, ps = rows ++ [z] := ⟨ps.dropLast, ps.getLast hne, (List.dropLast_concat_getLast hne).symm⟩
  have hz : (rows ++ [z]).getLast? = some z := by simp
  have hd : (rows ++ [z]).dropLast = rows := by simp
  rw [hz, hd] at nd ⊢
  have hg : (g ++ [.lst (strL (rows ++ [z]))] : G)[g.length]? = some (.lst (strL (rows ++ [z]))) := get_new _ _
  have gr1 : Gr g (g ++ [.lst (strL (rows ++ [z]))]) := Gr.app _ _
  generalize (g ++ [.lst (strL (rows ++ [z]))] : G) = g1 at hs hg gr1
  have hcut : getCut (.ref g.length) none (some (-1)) g1 = .ok (.ref g1.length) (g1 ++ [.lst (strL rows)]) := by
    show (match lsOf g1 g.length with | some xs => _ | none => _) = _
    rw [lsOf_eq hg]
    have e : cutL (strL (rows ++ [z])) (sIxE (strL (rows ++ [z])).length 0 none) (sIxE (strL (rows ++ [z])).length (strL (rows ++ [z])).length (some (-1))) = strL rows := by
      unfold cutL sIxE strL
      simp
      rw [show ((-1 : Int) + ((rows.length : Int) + 1)).toNat = rows.length from by omega]
      rw [List.take_append_of_le_length (by simp)]
      rw [List.take_of_length_le (by simp)]
    dsimp only
    rw [e]
    refine newL_ok ?_ g1
    rw [line_is]
    unfold strL
    simp at hlen ⊢
    omega
  have hg2 : (g1 ++ [.lst (strL rows)] : G)[g1.length]? = some (.lst (strL rows)) := get_new _ _
  have gr2 : Gr g1 (g1 ++ [.lst (strL rows)]) := Gr.app _ _
  generalize (g1 ++ [.lst (strL rows)] : G) = g2 at hcut hg2 gr2
  have hl3 : (g2 ++ [.ins "Lines" []] : G)[g2.length]? = some (.ins "Lines" []) := get_new _ _
  have gr3 : Gr g2 (g2 ++ [O.ins "Lines" []]) := Gr.app _ _
  have hi := lini_ok (n + 2) (g2 ++ [O.ins "Lines" []]) g2.length g1.length hl3
  have hmk : make ⟨P, call P (n + 4), call P (n + 3), none⟩ "Lines" [.ref g1.length] g2 = .ok (.ref g2.length) ((g2 ++ [O.ins "Lines" []]).set g2.length (linesO g1.length 0)) := by
    unfold make
    rw [if_pos ln_cls]
    show R.bind (call P (n + 3) "Lines" "__init__" [.ref g2.length, .ref g1.length] _) _ = _
    rw [hi]
    try rfl
  have gr4 : Gr g2 ((g2 ++ [O.ins "Lines" []]).set g2.length (linesO g1.length 0)) := gr3.set (Nat.le_refl _) _
  have h4 : LinesAt ((g2 ++ [O.ins "Lines" []]).set g2.length (linesO g1.length 0)) g2.length g1.length rows 0 :=
    ⟨get_set hl3, gr4.get hg2, by have := get_lt hg2; omega, fun x hx => hmem x (by simp [hx]), by simp at hlen; omega, Nat.zero_le _⟩
  generalize ((g2 ++ [O.ins "Lines" []]).set g2.length (linesO g1.length 0) : G) = g4 at hmk gr4 h4
  have h04 : Gr g g4 := (gr1.trans gr2).trans gr4
  have hLg : g.length ≤ g2.length := (gr1.trans gr2).len
  have hg1a : g1.length ≤ g2.length := gr2.len
  generalize g2.length = a at hmk h4 hLg hg1a
  have key : ∀ g', Fa [a] g4 g' → Gr g g' := fun g' hF => fa_gr (.new h04 hF fun j hj => by
    simp at hj
    subst hj
    exact .inr hLg)
  have kn := h4.kind (m := "need") (by simp)
  have e1 := need_ok (n + 2) h4 (d := 0) (by omega) (t := cFor) (by decide)
  have e1 : call P (n + 4) "Lines" "need" [.ref a, .str (T cFor), .int 0] g4 = if hereC 0 rows = cFor then .ok .non (g4.set a (linesO g1.length 1)) else .exc (badT 1) g4 := e1
  have con : P.con "FIRST_LINE" = some (.str (T cFor)) := con_first
  rw [call_run fn_read rfl, rd_body]
  show (∃ b g', _ ∧ _ ∧ R.bind (exs ⟨P, call P (n + 4), call P (n + 3), none⟩ _ [some (.str (T t)), none, none, none] g) _ = _) ∨ ∃ q g', _ ∧ _ ∧ _ ∧ R.bind (exs ⟨P, call P (n + 4), call P (n + 3), none⟩ _ [some (.str (T t)), none, none, none] g) _ = _
  by_cases hF : hereC 0 rows = cFor
  · rw [if_pos hF] at e1 nd ⊢
    have hp : 0 < rows.length := here_lt (d := 0) (by rw [List.drop_zero, hF]; decide)
    have h5 := h4.next hp
    have f5 : Fa [a] g4 (g4.set a (linesO g1.length 1)) := .set (by simp) _ _
    have h5 : LinesAt (g4.set a (linesO g1.length 1)) a g1.length rows 1 := h5
    generalize g4.set a (linesO g1.length 1) = g5 at e1 h5 f5
    have tl : rows.tail = rows.drop 1 := by rw [← tail_drop, List.drop_zero]
    rw [tl] at nd ⊢
    rcases (read_block_ok n 1 (by omega) g5 1 h5 (out_bind nd)).to with ⟨v, g6, e2, b, q, o1, rfl, h6, f6⟩ | ⟨x, g6, e2, q, o1, hq, rfl, f6⟩
    · have e2 : call P (n + 4) "" "read_block" [.ref a, .int 1] g5 = .ok (.tup (bkD b)) g6 := e2
      rw [o1] at nd ⊢
      have gr6 := key g6 (f5.trans f6)
      have pl := h6.place (call P (n + 4)) (call P (n + 3)) none
      have rl := h6.rows (call P (n + 4)) (call P (n + 3)) none
      have hL := len_ref (c := ⟨P, call P (n + 4), call P (n + 3), none⟩) h6.row
      have hLs : (strL rows).length = rows.length := List.length_map ..
      rw [hLs] at hL
      have ks := h6.kind (m := "stop") (by simp)
      have es := stop_ok (n + 3) h6
      have g6l : g6[g.length]? = some (.lst (strL (rows ++ [z]))) := by
        have : Gr g1 g6 := fa_gr (.new (gr2.trans gr4) (f5.trans f6) fun j hj => by
          simp at hj
          subst hj
          exact .inr hg1a)
        exact this.get hg
      have il : getIx (.ref g.length) (.int (-1)) g6 = .ok (.str (T z)) g6 := by
        rw [getIx_ref g6l]
        have : atI (strL (rows ++ [z])) (-1) = some (.str (T z)) := by
          unfold atI sIx strL
          simp
          rw [show ((-1 : Int) + ((rows.length : Int) + 1)).toNat = rows.length from by omega]
          rw [if_pos (by omega)]
          simp
        rw [this]
        try rfl
      have hnz : ∀ g, cmpop ⟨P, call P (n + 4), call P (n + 3), none⟩ .ne (.str (T z)) (.str "") g = .ok (.bl (!decide (z = []))) g := fun g => by rw [ne_data _ rfl rfl, k_nil, eq_T]
      have v1 : (Out.ok b (rows.drop q)).bind (fun b rest => if rest ≠ [] ∨ some z ≠ some [] then Out.no rest else Out.ok b rest) = if rows.drop q ≠ [] ∨ some z ≠ some [] then Out.no (rows.drop q) else Out.ok b (rows.drop q) := rfl
      rw [v1]
      by_cases hq : q < rows.length
      · have hd : rows.drop q ≠ [] := by
          intro h
          have := congrArg List.length h
          simp at this
          omega
        rw [if_pos (.inl hd)]
        have hqi : (q : Int) < rows.length := by omega
        refine .inr ⟨q, g6, gr6, rfl, by omega, ?_⟩
        simp [exs, exe, ev, evs, k_lf, kind_str, hs, isnC, hcut, hmk, kn, con, e1, e2, rdTail, pl, rl, hL, hqi, ks, es]
      · have hdr : rows.drop q = [] := List.drop_eq_nil_of_le (by omega)
        have hqi : ¬ (q : Int) < rows.length := by omega
        by_cases hz : z = []
        · subst hz
          rw [if_neg (by simp [hdr]), hdr]
          refine .inl ⟨b, g6, gr6, rfl, ?_⟩
          simp [exs, exe, ev, evs, k_lf, kind_str, hs, isnC, hcut, hmk, kn, con, e1, e2, rdTail, pl, rl, hL, hqi, il, hnz]
          cases make _ _ _ _ <;> rfl
        · rw [if_pos (.inr (by simp [hz]))]
          refine .inr ⟨q, g6, gr6, rfl, h6.le, ?_⟩
          simp [exs, exe, ev, evs, k_lf, kind_str, hs, isnC, hcut, hmk, kn, con, e1, e2, rdTail, pl, rl, hL, hqi, il, hnz, hz, ks, es]
    · have e2 : call P (n + 4) "" "read_block" [.ref a, .int 1] g5 = .exc (badT (q + 1)) g6 := e2
      rw [o1]
      refine .inr ⟨q, g6, key g6 (f5.trans f6), rfl, hq, ?_⟩
      simp [exs, exe, ev, evs, k_lf, kind_str, hs, isnC, hcut, hmk, kn, con, e1, e2]
  · rw [if_neg hF] at e1 nd ⊢
    refine .inr ⟨0, g4, h04, rfl, Nat.zero_le _, ?_⟩
    simp [exs, exe, ev, evs, k_lf, kind_str, hs, isnC, hcut, hmk, kn, con, e1]
end UkW
end
section
set_option Elab.async false
set_option linter.all false
set_option maxRecDepth 100000
set_option autoImplicit false
set_option maxHeartbeats 1000000
namespace UkW
open Uk
open Mac (Wo Th Ot Nm Bs Pv Vl Wd Ts Sm Bk)
/-! ## Loops, written -/
theorem fn_lword : P.fn "" "_law_word" = some d__law_word := by rfl
theorem fn_lasked : P.fn "" "_law_asked" = some d__law_asked := by rfl
theorem fn_lhead : P.fn "" "_law_head" = some d__law_head := by rfl
theorem fn_lrows : P.fn "" "_law_rows" = some d__law_rows := by rfl
theorem fn_ltext : P.fn "" "_law_text" = some d__law_text := by rfl
theorem fn_lwhole : P.fn "" "_law_whole" = some d__law_whole := by rfl
theorem pvC_len (p : Pv) : (pvC p).length ≤ 4 := by
  cases p with
  | bs x => cases x with
    | item => decide
    | nm n => cases n <;> decide
  | none => decide
  | «at» k => show 1 ≤ 4; decide
theorem bsC_len (x : Bs) : (bsC x).length ≤ 4 := pvC_len (.bs x)
theorem vlC_len (v : Vl) : (vlC v).length ≤ 10 := by
  cases v with
  | pv p => have := pvC_len p; show (pvC p).length ≤ 10; omega
  | copy x =>
    have := bsC_len x
    have e : vlC (.copy x) = cCopy ++ bsC x ++ [')'] := rfl
    rw [e, List.length_append, List.length_append]
    have : cCopy.length = 5 := rfl
    simp only [List.length_cons, List.length_nil]
    omega
theorem wdC_len (w : Wd) : (wdC w).length ≤ 5 := by cases w <;> decide
theorem endC_len (w : Wd) : (endC w).length ≤ 1 := by cases w <;> decide
theorem t0C_len (w : Wd) (x y : Pv) : (t0C w x y).length ≤ 14 := by
  have := pvC_len x
  have := pvC_len y
  have := wdC_len w
  have := endC_len w
  unfold t0C
  rw [List.length_append, List.length_append, List.length_append]
  omega
theorem tsC_len (t : Ts) : (tsC t).length ≤ 18 := by
  have := t0C_len t.w t.x t.y
  unfold tsC
  rw [List.length_append]
  split
  · have : cNot.length = 4 := rfl
    omega
  · simp only [List.length_nil]
    omega
theorem nmC_len (n : Nm) : (nmC n).length = 1 := by cases n <;> rfl
theorem hdC_len (s : Sm) : (hdC s).length ≤ 22 := by
  cases s with
  | brk => decide
  | set x v =>
    have := vlC_len v
    have := nmC_len x
    have e : hdC (.set x v) = nmC x ++ cSet ++ vlC v := rfl
    rw [e, List.length_append, List.length_append]
    have : cSet.length = 3 := rfl
    omega
  | ifs t y n =>
    have := tsC_len t
    have e : hdC (.ifs t y n) = cIf ++ tsC t ++ [':'] := rfl
    rw [e, List.length_append, List.length_append]
    have : cIf.length = 3 := rfl
    simp only [List.length_cons, List.length_nil]
    omega
theorem addT {a b : Cs} (h : a.length + b.length ≤ 1000000) (g : G) : binop .add (.str (T a)) (.str (T b)) g = .ok (.str (T (a ++ b))) g := by
  show newS (T a ++ T b) g = _
  unfold newS
  rw [T_app, if_pos]
  rw [T_len, List.length_append, line_is]
  omega
theorem evf_c {c : Cx} {e : Uk.E} {es : Es} {a b : Cs} {δ : Env} {g g' : G} (h : ev c e δ g = .ok (.str (T b)) g') (hl : a.length + b.length ≤ 1000000) : evf c (.c e es) (T a) δ g = evf c es (T (a ++ b)) δ g' := by
  conv => lhs; unfold evf
  rw [h]
  show (if (T a ++ T b).length ≤ line then _ else _) = _
  rw [T_app, if_pos]
  rw [T_len, List.length_append, line_is]
  omega
theorem evf_n {c : Cx} {a : Cs} {δ : Env} {g : G} : evf c .n (T a) δ g = .ok (.str (T a)) g := by unfold evf; try rfl
theorem ev_fst {c : Cx} {es : Es} {δ : Env} {g : G} : ev c (.fst es) δ g = evf c es (T []) δ g := by
  conv => lhs; unfold ev
  try rfl
theorem ev_fmt {c : Cx} {e : Uk.E} {b : Cs} {δ : Env} {g g' : G} (h : ev c e δ g = .ok (.str (T b)) g') (hl : b.length ≤ 1000000) : ev c (.fmt e) δ g = .ok (.str (T b)) g' := by
  conv => lhs; unfold ev
  rw [h]
  show (if (T b).length ≤ line then _ else _) = _
  rw [if_pos]
  rw [T_len, line_is]
  omega
theorem str_int {k : Int} (h : 0 ≤ k ∧ k ≤ 9) (c : Cx) (g : G) : builtin c .str [.int k] g = .ok (.str (T (dgC k.toNat))) g := by
  obtain ⟨m, rfl⟩ : ∃ m : Nat, k = m := ⟨k.toNat, by omega⟩
  show (if (m : Int).natAbs < 1000000 then R.ok (D.str (toString (m : Int))) g else .bad) = _
  rw [if_pos (by omega), dg_text m (by omega)]
  try rfl
theorem pvword_ok (n : Nat) (g : G) {p : Pv} (h : pvDg p) : call P (n + 1) "" "_law_word" [pvD p] g = .ok (.str (T (pvC p))) g := by
  rw [call_run fn_lword rfl]
  cases p with
  | bs x => cases x with
    | item => simp [d__law_word, exs, exe, ev, evs, pvD, bsD, eq_data]; try rfl
    | nm n => cases n <;> simp [d__law_word, exs, exe, ev, evs, pvD, bsD, nmS, eq_data] <;> rfl
  | none => simp [d__law_word, exs, exe, ev, evs, pvD, eq_data]; try rfl
  | «at» k => simp [d__law_word, exs, exe, ev, evs, pvD, eq_data, str_int h]; try rfl
theorem vlword_ok (n : Nat) (g : G) {v : Vl} (h : vlDg v) : call P (n + 2) "" "_law_word" [vlD v] g = .ok (.str (T (vlC v))) g := by
  cases v with
  | pv p => exact pvword_ok (n + 1) g h
  | copy x =>
    rw [call_run fn_lword rfl]
    have e1 : call P (n + 1) "" "_law_word" [bsD x] g = .ok (.str (T (bsC x))) g := pvword_ok n g (p := .bs x) trivial
    have hb := bsC_len x
    have a1 := addT (a := cCopy) (b := bsC x) (by simp [cCopy]; omega) g
    have a2 := addT (a := cCopy ++ bsC x) (b := [')']) (by simp [cCopy]; omega) g
    show R.bind (exs ⟨P, call P (n + 1), call P n, none⟩ d__law_word.body [some (.tup [.str "copy", bsD x])] g) _ = _
    simp only [d__law_word]
    rw [exs_ife_f (g' := g) (by simp [ev, eq_data]), exs_ife_f (g' := g) (by simp [ev, eq_data]), exs_ife_t (g' := g) (by simp [ev, eq_data])]
    simp [-List.append_assoc, exs, exe, ev, evs, e1, k_copy, k_par, a1, a2]
    simp [vlC]
theorem t0asked_ok (n : Nat) (g : G) {w : Wd} {x y : Pv} (hx : pvDg x) (hy : pvDg y) : call P (n + 2) "" "_law_asked" [t0D w x y] g = .ok (.str (T (t0C w x y))) g := by
  rw [call_run fn_lasked rfl]
  have e1 := pvword_ok n g hx
  have e2 := pvword_ok n g hy
  have := pvC_len x
  have := pvC_len y
  have := wdC_len w
  have a1 := addT (a := pvC x) (b := wdC w) (by omega) g
  have a2 := addT (a := pvC x ++ wdC w) (b := pvC y) (by rw [List.length_append]; omega) g
  have a3 := addT (a := pvC x ++ wdC w ++ pvC y) (b := [']']) (by rw [List.length_append, List.length_append]; simp; omega) g
  show R.bind (exs ⟨P, call P (n + 1), call P n, none⟩ d__law_asked.body [some (.tup [.str (wdS w), pvD x, pvD y]), none, none] g) _ = _
  cases w with
  | same =>
    have k : (" is " : String) = T (wdC .same) := rfl
    simp [-List.append_assoc, d__law_asked, exs, exe, ev, evs, e1, e2, wdS, eq_data, k, a1, a2]
    simp [t0C, endC]
  | alike =>
    have k : (" == " : String) = T (wdC .alike) := rfl
    simp [-List.append_assoc, d__law_asked, exs, exe, ev, evs, e1, e2, wdS, eq_data, k, a1, a2]
    simp [t0C, endC]
  | below =>
    have k : (" < " : String) = T (wdC .below) := rfl
    simp [-List.append_assoc, d__law_asked, exs, exe, ev, evs, e1, e2, wdS, eq_data, k, a1, a2]
    simp [t0C, endC]
  | in_ =>
    simp [-List.append_assoc, d__law_asked, exs, exe, ev, evs, e1, e2, wdS, eq_data, k_in, k_brk, a1, a2, a3]
    simp [t0C, endC]
theorem tsasked_ok (n : Nat) (g : G) {t : Ts} (hx : pvDg t.x) (hy : pvDg t.y) : call P (n + 3) "" "_law_asked" [tsD t] g = .ok (.str (T (tsC t))) g := by
  obtain ⟨neg, w, x, y⟩ := t
  cases neg with
  | false =>
    have e : tsD ⟨false, w, x, y⟩ = t0D w x y := rfl
    have e2 : tsC ⟨false, w, x, y⟩ = t0C w x y := rfl
    rw [e, e2]
    exact t0asked_ok (n + 1) g hx hy
  | true =>
    rw [call_run fn_lasked rfl]
    have e1 := t0asked_ok n g (w := w) hx hy
    have := t0C_len w x y
    have a1 := addT (a := cNot) (b := t0C w x y) (by simp [cNot]; omega) g
    show R.bind (exs ⟨P, call P (n + 2), call P (n + 1), none⟩ d__law_asked.body [some (.tup [.str "not", t0D w x y]), none, none] g) _ = _
    simp only [d__law_asked]
    rw [exs_ife_t (g' := g) (by simp [ev, eq_data])]
    simp [exs, exe, ev, evs, e1, k_not, a1]
    try rfl
theorem nmS_T (x : Nm) : nmS x = T (nmC x) := by cases x <;> rfl
theorem lhead_ok (n : Nat) (g : G) {s : Sm} (h : hdDg s) : call P (n + 4) "" "_law_head" [smD s] g = .ok (.str (T (hdC s))) g := by
  rw [call_run fn_lhead rfl]
  cases s with
  | brk =>
    simp [d__law_head, exs, exe, ev, evs, smD, eq_data]
    try rfl
  | set x v =>
    have e1 := vlword_ok (n + 1) g (v := v) h
    have := vlC_len v
    have := nmC_len x
    have a1 := addT (a := nmC x) (b := cSet) (by simp [cSet]; omega) g
    have a2 := addT (a := nmC x ++ cSet) (b := vlC v) (by simp [cSet]; omega) g
    show R.bind (exs ⟨P, call P (n + 3), call P (n + 2), none⟩ d__law_head.body [some (.tup [.str "set", .str (nmS x), vlD v])] g) _ = _
    simp [-List.append_assoc, d__law_head, exs, exe, ev, evs, eq_data, e1, nmS_T, k_set, a1, a2]
    simp [hdC]
  | ifs t y z =>
    have e1 := tsasked_ok n g h.1 h.2
    have := tsC_len t
    have a1 := addT (a := cIf) (b := tsC t) (by simp [cIf]; omega) g
    have a2 := addT (a := cIf ++ tsC t) (b := [':']) (by simp [cIf]; omega) g
    show R.bind (exs ⟨P, call P (n + 3), call P (n + 2), none⟩ d__law_head.body [some (.tup [.str "if", tsD t, .tup (bkD y), .tup (bkD z)])] g) _ = _
    simp [-List.append_assoc, d__law_head, exs, exe, ev, evs, eq_data, e1, k_if, k_col, a1, a2]
    simp [hdC]
end UkW
end
section
set_option Elab.async false
set_option linter.all false
set_option maxRecDepth 100000
set_option autoImplicit false
set_option maxHeartbeats 1000000
namespace UkW
open Uk
/-! ## Walks over what stays, as lists -/
def walkT (t : Tg) (body : Env → G → RS) : List D → Env → G → RS
  | [], δ, g => .ok (δ, .nx) g
  | x :: r, δ, g => match bindT t x δ with
    | none => .bad
    | some δ => (body δ g).bind fun z g => match z with
      | (δ, .nx) => walkT t body r δ g
      | z => .ok z g
theorem forL_const {w : Wk} {n : Nat} {t : Tg} {body : Env → G → RS} {xs : List D} (hw : ∀ i g, w.item n i g = some xs[i]?) : ∀ (k i : Nat) (δ : Env) (g : G), i + k = xs.length → forL w n t body k i δ g = walkT t body (xs.drop i) δ g
  | 0, i, δ, g, h => by
    have : i = xs.length := by omega
    subst this
    unfold forL
    rw [hw, List.getElem?_eq_none (Nat.le_refl _), List.drop_length]
    rfl
  | k + 1, i, δ, g, h => by
    have hi : i < xs.length := by omega
    unfold forL
    rw [hw, List.getElem?_eq_getElem hi, List.drop_eq_getElem_cons hi]
    dsimp only
    have e : walkT t body (xs[i] :: xs.drop (i + 1)) δ g = match bindT t xs[i] δ with
      | none => R.bad
      | some δ => (body δ g).bind fun z g => match z with
        | (δ, .nx) => walkT t body (xs.drop (i + 1)) δ g
        | z => .ok z g := rfl
    rw [e]
    cases bindT t xs[i] δ with
    | none => rfl
    | some δ1 =>
      dsimp only
      congr 1
      funext z g'
      obtain ⟨e, f⟩ := z
      cases f with
      | nx => exact forL_const hw k (i + 1) e g' (by omega)
      | rt d => rfl
@[simp] theorem forL_tup (xs : List D) (n : Nat) (t : Tg) (body : Env → G → RS) (δ : Env) (g : G) : forL (.tup xs) n t body xs.length 0 δ g = walkT t body xs δ g := forL_const (w := .tup xs) (fun _ _ => rfl) xs.length 0 δ g (by omega)
@[simp] theorem forL_fro (xs : List D) (n : Nat) (t : Tg) (body : Env → G → RS) (δ : Env) (g : G) : forL (.fro xs) n t body xs.length 0 δ g = walkT t body xs δ g := forL_const (w := .fro xs) (fun _ _ => rfl) xs.length 0 δ g (by omega)
/-- the pairs of an enumerate -/
def enumD : Nat → List D → List D
  | _, [] => []
  | i, x :: r => .tup [.int (i : Nat), x] :: enumD (i + 1) r
theorem enumD_len : ∀ (i : Nat) (xs : List D), (enumD i xs).length = xs.length
  | _, [] => rfl
  | i, x :: r => by simp [enumD, enumD_len (i + 1) r]
theorem enumD_get : ∀ (i : Nat) (xs : List D) (j : Nat), (enumD i xs)[j]? = xs[j]?.map fun x => .tup [.int ((i + j : Nat) : Int), x]
  | _, [], j => by simp [enumD]
  | i, x :: r, 0 => by simp [enumD]
  | i, x :: r, j + 1 => by
    show (enumD (i + 1) r)[j]? = r[j]?.map _
    rw [enumD_get (i + 1) r j]
    congr 1
    funext y
    rw [show i + 1 + j = i + (j + 1) from by omega]
@[simp] theorem forL_etup (xs : List D) (n : Nat) (t : Tg) (body : Env → G → RS) (δ : Env) (g : G) : forL (.etup xs) n t body xs.length 0 δ g = walkT t body (enumD 0 xs) δ g := by
  have h := forL_const (w := .etup xs) (n := n) (t := t) (body := body) (xs := enumD 0 xs) (fun i g => by
    show some (xs[i]?.map _) = some _
    rw [enumD_get, Nat.zero_add]) xs.length 0 δ g (by rw [enumD_len]; omega)
  rw [h]
  rfl
def rngD (n : Nat) : List D := (List.range n).map fun (i : Nat) => .int (i : Int)
theorem forL_rng (n : Nat) (t : Tg) (body : Env → G → RS) (δ : Env) (g : G) : forL (.rng 0 1) n t body n 0 δ g = walkT t body (rngD n) δ g := by
  have h := forL_const (w := .rng 0 1) (n := n) (t := t) (body := body) (xs := rngD n) (fun i g => by
    show some (if i < n then some (D.int (0 + 1 * i)) else none) = some _
    unfold rngD
    rw [List.getElem?_map]
    by_cases h : i < n
    · rw [if_pos h, List.getElem?_range h]
      simp
    · rw [if_neg h, List.getElem?_eq_none (by simp; omega)]
      rfl) n 0 δ g (by simp [rngD])
  exact h
@[simp] theorem walkT_nil (t : Tg) (body : Env → G → RS) (δ : Env) (g : G) : walkT t body [] δ g = .ok (δ, .nx) g := rfl
theorem walkT_cons (t : Tg) (body : Env → G → RS) (x : D) (r : List D) (δ : Env) (g : G) : walkT t body (x :: r) δ g = match bindT t x δ with
    | none => .bad
    | some δ => (body δ g).bind fun z g => match z with
      | (δ, .nx) => walkT t body r δ g
      | z => .ok z g := rfl
/-- a walk by an invariant of what is behind and what is ahead -/
theorem walk_inv {t : Tg} {body : Env → G → RS} {Q : Env × Fl → G → Prop} (I : List D → List D → Env → G → Prop)
    (step : ∀ pre x r δ g, I pre (x :: r) δ g → ∃ δ1, bindT t x δ = some δ1 ∧ Ok (body δ1 g) fun z g' => match z.2 with
      | .nx => I (pre ++ [x]) r z.1 g'
      | .rt _ => Q z g') (fin : ∀ pre δ g, I pre [] δ g → Q (δ, .nx) g) : ∀ (r pre : List D) (δ : Env) (g : G), I pre r δ g → Ok (walkT t body r δ g) Q
  | [], pre, δ, g, h => fin pre δ g h
  | x :: r, pre, δ, g, h => by
    obtain ⟨δ1, h1, h2⟩ := step pre x r δ g h
    rw [walkT_cons, h1]
    dsimp only
    rw [Ok_bind]
    refine h2.mono fun z g' hz => ?_
    obtain ⟨e, f⟩ := z
    cases f with
    | nx => exact walk_inv I step fin r (pre ++ [x]) e g' hz
    | rt d => exact hz
/-! ## == of unlike data -/
@[simp] theorem eqv_non_bl  (b : Bool) : D.eqv .non (.bl b) = false := by unfold D.eqv; rfl
@[simp] theorem eqv_non_int  (i : Int) : D.eqv .non (.int i) = false := by unfold D.eqv; rfl
@[simp] theorem eqv_non_str  (s : String) : D.eqv .non (.str s) = false := by unfold D.eqv; rfl
@[simp] theorem eqv_non_tup  (xs : List D) : D.eqv .non (.tup xs) = false := by unfold D.eqv; rfl
@[simp] theorem eqv_bl_non (b : Bool)  : D.eqv (.bl b) .non = false := by unfold D.eqv; rfl
@[simp] theorem eqv_bl_str (b : Bool) (s : String) : D.eqv (.bl b) (.str s) = false := by unfold D.eqv; rfl
@[simp] theorem eqv_bl_tup (b : Bool) (xs : List D) : D.eqv (.bl b) (.tup xs) = false := by unfold D.eqv; rfl
@[simp] theorem eqv_int_non (i : Int)  : D.eqv (.int i) .non = false := by unfold D.eqv; rfl
@[simp] theorem eqv_int_str (i : Int) (s : String) : D.eqv (.int i) (.str s) = false := by unfold D.eqv; rfl
@[simp] theorem eqv_int_tup (i : Int) (xs : List D) : D.eqv (.int i) (.tup xs) = false := by unfold D.eqv; rfl
@[simp] theorem eqv_str_non (s : String)  : D.eqv (.str s) .non = false := by unfold D.eqv; rfl
@[simp] theorem eqv_str_bl (s : String) (b : Bool) : D.eqv (.str s) (.bl b) = false := by unfold D.eqv; rfl
@[simp] theorem eqv_str_int (s : String) (i : Int) : D.eqv (.str s) (.int i) = false := by unfold D.eqv; rfl
@[simp] theorem eqv_str_tup (s : String) (xs : List D) : D.eqv (.str s) (.tup xs) = false := by unfold D.eqv; rfl
@[simp] theorem eqv_tup_non (xs : List D)  : D.eqv (.tup xs) .non = false := by unfold D.eqv; rfl
@[simp] theorem eqv_tup_bl (xs : List D) (b : Bool) : D.eqv (.tup xs) (.bl b) = false := by unfold D.eqv; rfl
@[simp] theorem eqv_tup_int (xs : List D) (i : Int) : D.eqv (.tup xs) (.int i) = false := by unfold D.eqv; rfl
@[simp] theorem eqv_tup_str (xs : List D) (s : String) : D.eqv (.tup xs) (.str s) = false := by unfold D.eqv; rfl
@[simp] theorem eqv_non_non : D.eqv .non .non = true := by unfold D.eqv; rfl
@[simp] theorem eqv_bl_bl (a b : Bool) : D.eqv (.bl a) (.bl b) = (a == b) := by unfold D.eqv; rfl
@[simp] theorem eqv_tup_tup (xs ys : List D) : D.eqv (.tup xs) (.tup ys) = D.eqvs xs ys := by unfold D.eqv; rfl
@[simp] theorem eqvs_nil : D.eqvs [] [] = true := by unfold D.eqvs; rfl
@[simp] theorem eqvs_nc (x : D) (xs : List D) : D.eqvs [] (x :: xs) = false := by unfold D.eqvs; rfl
@[simp] theorem eqvs_cn (x : D) (xs : List D) : D.eqvs (x :: xs) [] = false := by unfold D.eqvs; rfl
@[simp] theorem eqvs_cc (x y : D) (xs ys : List D) : D.eqvs (x :: xs) (y :: ys) = (D.eqv x y && D.eqvs xs ys) := by rw [D.eqvs]
@[simp] theorem isNon_non : D.isNon .non = true := rfl
@[simp] theorem isNon_bl (b : Bool) : D.isNon (.bl b) = false := rfl
@[simp] theorem isNon_int (i : Int) : D.isNon (.int i) = false := rfl
@[simp] theorem isNon_str (s : String) : D.isNon (.str s) = false := rfl
@[simp] theorem isNon_tup (xs : List D) : D.isNon (.tup xs) = false := rfl
@[simp] theorem isNon_ref (a : Nat) : D.isNon (.ref a) = false := rfl
/-! ## Dicts -/
theorem getIx_dK {g : G} {a : Nat} {kvs : List (D × D)} (h : g[a]? = some (.dK kvs)) (k : String) : getIx (.ref a) (.str k) g = orElse (lookD (.str k) kvs) fun v => .ok v g := by
  unfold getIx
  dsimp only
  rw [h]
theorem setSub_dK {g : G} {a : Nat} {kvs : List (D × D)} (h : g[a]? = some (.dK kvs)) (hl : kvs.length < line) (k : String) (v : D) : setSub (.ref a) (.str k) v g = .ok () (g.set a (.dK (putD (.str k) v kvs))) := by
  unfold setSub
  dsimp only
  rw [h]
  dsimp only
  rw [if_pos hl]
@[simp] theorem lookD_nil (k : D) : lookD k [] = none := rfl
theorem lookD_cons (k a v : D) (r : List (D × D)) : lookD k ((a, v) :: r) = if D.eqv a k then some v else lookD k r := rfl
@[simp] theorem lookD_str (k a : String) (v : D) (r : List (D × D)) : lookD (.str k) ((.str a, v) :: r) = if a = k then some v else lookD (.str k) r := by
  rw [lookD_cons, eqv_str]
  by_cases h : a = k <;> simp [h]
/-! ## Heaps: what is kept -/
theorem set_same {g : G} {a : Nat} {o : O} (h : g[a]? = some o) : g.set a o = g := by
  apply List.ext_getElem?
  intro j
  by_cases hj : j = a
  · subst hj
    rw [List.getElem?_set_self (get_lt h), h]
  · rw [List.getElem?_set_ne (Ne.symm hj)]
theorem set_set {g : G} {a : Nat} {o o' : O} : (g.set a o).set a o' = g.set a o' := List.set_set ..
theorem set_comm {g : G} {a b : Nat} {o o' : O} (h : a ≠ b) : (g.set a o).set b o' = (g.set b o').set a o := List.set_comm _ _ h
end UkW
end
section
set_option Elab.async false
set_option linter.all false
set_option maxRecDepth 100000
set_option autoImplicit false
set_option maxHeartbeats 1000000
namespace UkW
open Uk
open Mac (Wo Th Ot Nm Bs Pv Vl Wd Ts Sm Bk)
/-! ## Loops, written: blocks -/
abbrev Ln := Nat × Cs
def orP (d : Nat) : List Ln → List Ln
  | [] => [(d, cPass)]
  | l => l
mutual
def smR (d : Nat) : Sm → List Ln
  | .brk => [(d, hdC .brk)]
  | .set x v => [(d, hdC (.set x v))]
  | .ifs t y z => (d, hdC (.ifs t y z)) :: (orP (d + 1) (bkR (d + 1) y) ++ (d, cElse) :: orP (d + 1) (bkR (d + 1) z))
def bkR (d : Nat) : Bk → List Ln
  | .nil => []
  | .cons s b => smR d s ++ bkR d b
end
def wholeR (b : Bk) : List Ln := (0, cFor) :: orP 1 (bkR 1 b)
def linC (p : Ln) : Cs := blC p.1 ++ p.2
def textC (l : List Ln) : Cs := (l.map fun p => linC p ++ ['\n']).flatten
def lnD (p : Ln) : D := .str (T (linC p))
def rwD (p : Ln) : D := .tup [.int (p.1 : Nat), .str (T p.2)]
mutual
/-- digits from 0 to 9, at most k ifs within one another -/
def smW : Nat → Sm → Prop
  | _, .brk => True
  | _, .set _ v => vlDg v
  | k, .ifs t y n => (pvDg t.x ∧ pvDg t.y) ∧ ∃ j, k = j + 1 ∧ bkW j y ∧ bkW j n
def bkW : Nat → Bk → Prop
  | _, .nil => True
  | k, .cons s b => smW k s ∧ bkW k b
end
theorem smW_hd {k : Nat} {s : Sm} (h : smW k s) : hdDg s := by
  cases s with
  | brk => trivial
  | set x v => unfold smW at h; exact h
  | ifs t y n => unfold smW at h; exact h.1
theorem fst_2 {c : Cx} {e : Uk.E} {s : String} {a b : Cs} {δ : Env} {g : G} (h : ev c e δ g = .ok (.str (T a)) g) (hs : s = T b) (ha : a.length ≤ 1000) (hb : b.length ≤ 1000) : ev c (.fst (.c (.fmt e) (.c (.cst (.str s)) .n))) δ g = .ok (.str (T (a ++ b))) g := by
  rw [ev_fst, evf_c (g' := g) (b := a) (ev_fmt h (by omega)) (by simp; omega), evf_c (g' := g) (b := b) (by rw [hs]; unfold ev; rfl) (by simp; omega), evf_n]
  try rfl
theorem evf_2 {c : Cx} {i : Nat} {s : String} {a b : Cs} {δ : Env} {g : G} (h : δ[i]? = some (some (.str (T a)))) (hs : s = T b) (ha : a.length ≤ 1000) (hb : b.length ≤ 1000) : evf c (.c (.fmt (.loc i)) (.c (.cst (.str s)) .n)) "" δ g = .ok (.str (T (a ++ b))) g := by
  have e := fst_2 (c := c) (e := .loc i) (g := g) (δ := δ) (by unfold ev; rw [h]) hs ha hb
  rw [ev_fst] at e
  exact e
end UkW
end
section
set_option Elab.async false
set_option linter.all false
set_option maxRecDepth 100000
set_option autoImplicit false
set_option maxHeartbeats 1000000
namespace UkW
open Uk
open Mac (Wo Th Ot Nm Bs Pv Vl Wd Ts Sm Bk)
/-! ## The law's rows of a block -/
def lrBody : Ss := .c (.ex (.met (.loc 2) "append" (.c (.tup (.c (.loc 1) (.c (.call "_law_head" (.c (.loc 3) .n)) .n))) .n))) (.c (.ife (.cmp .eq (.ix (.loc 3) (.cst (.int 0))) (.cst (.str "if"))) (.c (.asg 2 (.bin .add (.loc 2) (.call "_law_rows" (.c (.ix (.loc 3) (.cst (.int 2))) (.c (.bin .add (.loc 1) (.cst (.int 1))) .n))))) (.c (.ex (.met (.loc 2) "append" (.c (.tup (.c (.loc 1) (.c (.cst (.str "else:")) .n))) .n))) (.c (.asg 2 (.bin .add (.loc 2) (.call "_law_rows" (.c (.ix (.loc 3) (.cst (.int 3))) (.c (.bin .add (.loc 1) (.cst (.int 1))) .n))))) .n))) .n) .n)
theorem lr_body : d__law_rows.body = .c (.asg 2 (.lst .n)) (.c (.for_ (.one 3) (.seq (.loc 0)) lrBody) (.c (.ife (.cmp .eq (.bi .len (.c (.loc 0) .n)) (.cst (.int 0))) (.c (.ex (.met (.loc 2) "append" (.c (.tup (.c (.loc 1) (.c (.cst (.str "pass")) .n))) .n))) .n) .n) (.c (.ret (.loc 2)) .n))) := by rfl
theorem orP_len (d : Nat) (l : List Ln) : l.length ≤ (orP d l).length := by
  cases l with
  | nil => exact Nat.zero_le _
  | cons x l => exact Nat.le_refl _
theorem add_lst {g : G} {a b : Nat} {xs ys : List D} (h : g[a]? = some (.lst xs)) (h2 : g[b]? = some (.lst ys)) (hl : xs.length + ys.length ≤ 1000000) : binop .add (.ref a) (.ref b) g = .ok (.ref g.length) (g ++ [.lst (xs ++ ys)]) := by
  rw [add_ref h h2]
  exact newL_ok (by rw [List.length_append, line_is]; omega) g
theorem lr_loop {N d k : Nat} (IH : ∀ j, k = j + 1 → ∀ (b : Bk) (g : G), bkW j b → (bkR (d + 1) b).length ≤ 100000 → Ok (call P (N + 4) "" "_law_rows" [.tup (bkD b), .int ((d : Int) + 1)] g) fun v g' => NewL g ((orP (d + 1) (bkR (d + 1) b)).map rwD) v g') (c1 : String → String → List D → G → R D) (bs : List D) {g0 : G} :
    ∀ (b : Bk) (acc : List Ln) (g : G) (f : Nat) (x4 : Option D), g0.length ≤ f → bkW k b → acc.length + (bkR d b).length ≤ 100000 → Gr g0 g → g[f]? = some (.lst (acc.map rwD)) →
    Ok (walkT (.one 3) (exs ⟨P, call P (N + 4), c1, none⟩ lrBody) (bkD b) [some (.tup bs), some (.int (d : Int)), some (.ref f), x4] g) fun z g' => z.2 = .nx ∧ ∃ f2 y4, z.1 = [some (.tup bs), some (.int (d : Int)), some (.ref f2), y4] ∧ g0.length ≤ f2 ∧ Gr g0 g' ∧ g'[f2]? = some (.lst ((acc ++ bkR d b).map rwD))
  | .nil, acc, g, f, x4, hf0, hw, hl, hg, hf => by
    refine ⟨rfl, f, x4, rfl, hf0, hg, ?_⟩
    show g[f]? = some (.lst ((acc ++ []).map rwD))
    rw [List.append_nil]
    exact hf
  | .cons s b, acc, g, f, x4, hf0, hw, hl, hg, hf => by
    unfold bkW at hw
    obtain ⟨hs, hb⟩ := hw
    have hla : ((acc.map rwD).length : Nat) = acc.length := List.length_map ..
    have e1 := lhead_ok N g (smW_hd hs)
    have r : bkR d (.cons s b) = smR d s ++ bkR d b := rfl
    rw [r, List.length_append] at hl
    have ap := app_ref hf (by rw [hla, line_is]; omega) (rwD (d, hdC s))
    have hg1 : Gr g0 (g.set f (.lst (acc.map rwD ++ [rwD (d, hdC s)]))) := hg.set hf0 _
    have hf1 := get_set (o' := .lst (acc.map rwD ++ [rwD (d, hdC s)])) hf
    generalize g.set f (.lst (acc.map rwD ++ [rwD (d, hdC s)])) = g1 at ap hg1 hf1
    have hf1 : g1[f]? = some (.lst ((acc ++ [(d, hdC s)]).map rwD)) := by rw [hf1, List.map_append]; try rfl
    have go : ∀ (g2 : G) (f2 : Nat), g0.length ≤ f2 → Gr g0 g2 → g2[f2]? = some (.lst ((acc ++ smR d s).map rwD)) → exs ⟨P, call P (N + 4), c1, none⟩ lrBody [some (.tup bs), some (.int (d : Int)), some (.ref f), some (smD s)] g = .ok ([some (.tup bs), some (.int (d : Int)), some (.ref f2), some (smD s)], .nx) g2 → Ok (walkT (.one 3) (exs ⟨P, call P (N + 4), c1, none⟩ lrBody) (bkD (.cons s b)) [some (.tup bs), some (.int (d : Int)), some (.ref f), x4] g) fun z g' => z.2 = .nx ∧ ∃ f2 y4, z.1 = [some (.tup bs), some (.int (d : Int)), some (.ref f2), y4] ∧ g0.length ≤ f2 ∧ Gr g0 g' ∧ g'[f2]? = some (.lst ((acc ++ bkR d (.cons s b)).map rwD)) := by
      intro g2 f2 hf20 hg2 hf2 run
      show Ok (walkT _ _ (smD s :: bkD b) _ _) _
      rw [walkT_cons]
      show Ok (R.bind (exs ⟨P, call P (N + 4), c1, none⟩ lrBody [some (.tup bs), some (.int (d : Int)), some (.ref f), some (smD s)] g) _) _
      rw [run, bind_ok]
      have := lr_loop IH c1 bs b (acc ++ smR d s) g2 f2 (some (smD s)) hf20 hb (by rw [List.length_append]; omega) hg2 hf2
      rw [r, ← List.append_assoc]
      exact this
    cases s with
    | brk =>
      refine go g1 f hf0 hg1 hf1 ?_
      have e1 : call P (N + 4) "" "_law_head" [.tup [.str "break"]] g = _ := e1
      have ap : listM (.ref f) .append [.tup [.int (d : Nat), .str (T (hdC .brk))]] g = _ := ap
      simp [lrBody, exs, exe, ev, evs, kind_lst hf, e1, ap, smD, eq_data]
    | set x v =>
      refine go g1 f hf0 hg1 hf1 ?_
      have e1 : call P (N + 4) "" "_law_head" [.tup [.str "set", .str (nmS x), vlD v]] g = _ := e1
      have ap : listM (.ref f) .append [.tup [.int (d : Nat), .str (T (hdC (.set x v)))]] g = _ := ap
      simp [lrBody, exs, exe, ev, evs, kind_lst hf, e1, ap, smD, eq_data]
    | ifs t y z =>
      have hs2 := hs
      unfold smW at hs2
      obtain ⟨_, j, hj, hy, hz⟩ := hs2
      have e1 : call P (N + 4) "" "_law_head" [.tup [.str "if", tsD t, .tup (bkD y), .tup (bkD z)]] g = _ := e1
      have ap : listM (.ref f) .append [.tup [.int (d : Nat), .str (T (hdC (.ifs t y z)))]] g = _ := ap
      have rr : smR d (.ifs t y z) = (d, hdC (.ifs t y z)) :: (orP (d + 1) (bkR (d + 1) y) ++ (d, cElse) :: orP (d + 1) (bkR (d + 1) z)) := rfl
      have oy := orP_len (d + 1) (bkR (d + 1) y)
      have oz := orP_len (d + 1) (bkR (d + 1) z)
      rw [rr] at hl
      simp only [List.length_cons, List.length_append] at hl
      obtain ⟨v, g2, e2, i2, rfl, gr2, hi2, hx2⟩ := (IH j hj y g1 hy (by omega)).to
      have hf2 := gr2.get hf1
      have m1 := add_lst hf2 hx2 (by simp only [List.length_map, List.length_append, List.length_cons, List.length_nil]; omega)
      rw [← List.map_append] at m1
      have hg2 := hg1.trans gr2
      have hl2 : g0.length ≤ g2.length := hg2.len
      have hg3 : Gr g0 (g2 ++ [.lst (((acc ++ [(d, hdC (.ifs t y z))]) ++ orP (d + 1) (bkR (d + 1) y)).map rwD)]) := hg2.trans (.app _ _)
      have hf3 : (g2 ++ [.lst (((acc ++ [(d, hdC (.ifs t y z))]) ++ orP (d + 1) (bkR (d + 1) y)).map rwD)] : G)[g2.length]? = _ := get_new _ _
      generalize (g2 ++ [.lst (((acc ++ [(d, hdC (.ifs t y z))]) ++ orP (d + 1) (bkR (d + 1) y)).map rwD)] : G) = g3 at m1 hg3 hf3
      generalize g2.length = f3 at m1 hl2 hf3
      have m2 := app_ref hf3 (by simp only [List.length_map, List.length_append, List.length_cons, List.length_nil, line_is]; omega) (rwD (d, cElse))
      rw [show List.map rwD (acc ++ [(d, hdC (.ifs t y z))] ++ orP (d + 1) (bkR (d + 1) y)) ++ [rwD (d, cElse)] = List.map rwD (acc ++ [(d, hdC (.ifs t y z))] ++ orP (d + 1) (bkR (d + 1) y) ++ [(d, cElse)]) from by rw [List.map_append (l₂ := [(d, cElse)])]; rfl] at m2
      have hg4 : Gr g0 (g3.set f3 (.lst (List.map rwD (acc ++ [(d, hdC (.ifs t y z))] ++ orP (d + 1) (bkR (d + 1) y) ++ [(d, cElse)])))) := hg3.set hl2 _
      have hf4 := get_set (o' := .lst (List.map rwD (acc ++ [(d, hdC (.ifs t y z))] ++ orP (d + 1) (bkR (d + 1) y) ++ [(d, cElse)]))) hf3
      generalize g3.set f3 (.lst (List.map rwD (acc ++ [(d, hdC (.ifs t y z))] ++ orP (d + 1) (bkR (d + 1) y) ++ [(d, cElse)]))) = g4 at m2 hg4 hf4
      have m2 : listM (.ref f3) .append [.tup [.int (d : Nat), .str "else:"]] g3 = .ok .non g4 := m2
      obtain ⟨v, g5, e5, i5, rfl, gr5, hi5, hx5⟩ := (IH j hj z g4 hz (by omega)).to
      have hf5 := gr5.get hf4
      have m3 := add_lst hf5 hx5 (by simp only [List.length_map, List.length_append, List.length_cons, List.length_nil]; omega)
      rw [← List.map_append] at m3
      have k1 := kind_lst hf (P := P)
      have k2 := kind_lst hf1 (P := P)
      have k3 := kind_lst hf3 (P := P)
      have hg5 := hg4.trans gr5
      refine go _ _ hg5.len (hg5.trans (.app _ _)) ((get_new g5 (.lst (List.map rwD (acc ++ [(d, hdC (.ifs t y z))] ++ orP (d + 1) (bkR (d + 1) y) ++ [(d, cElse)] ++ orP (d + 1) (bkR (d + 1) z))))).trans ?_) ?_
      · rw [rr]
        simp
      · simp [-List.append_assoc, -List.map_append, lrBody, exs, exe, smD, ev, evs, k1, k2, k3, e1, ap, eq_data, e2, m1, m2, e5, m3]
theorem lrows_step {N d k : Nat} (IH : ∀ j, k = j + 1 → ∀ (b : Bk) (g : G), bkW j b → (bkR (d + 1) b).length ≤ 100000 → Ok (call P (N + 4) "" "_law_rows" [.tup (bkD b), .int ((d : Int) + 1)] g) fun v g' => NewL g ((orP (d + 1) (bkR (d + 1) b)).map rwD) v g') (b : Bk) (g : G) (hw : bkW k b) (hl : (bkR d b).length ≤ 100000) : Ok (call P (N + 5) "" "_law_rows" [.tup (bkD b), .int (d : Int)] g) fun v g' => NewL g ((orP d (bkR d b)).map rwD) v g' := by
  refine body_run (n := N + 4) fn_lrows rfl ?_
  rw [lr_body]
  have hf : (g ++ [.lst []] : G)[g.length]? = some (.lst []) := get_new _ _
  have gr : Gr g (g ++ [.lst []]) := Gr.app _ _
  generalize hG : (g ++ [.lst []] : G) = g1 at hf gr
  obtain ⟨z, g2, e2, hz, f2, y4, hz2, hf20, gr2, hf2⟩ := (lr_loop IH (call P (N + 3)) (bkD b) b [] g1 g.length none (Nat.le_refl _) hw (by simpa using hl) gr hf).to
  obtain ⟨δ2, fl⟩ := z
  have hz : fl = .nx := hz
  have hz2 : δ2 = _ := hz2
  subst hz hz2
  have e2 : forL (.tup (bkD b)) (bkD b).length (.one 3) (exs ⟨P, call P (N + 4), call P (N + 3), none⟩ lrBody) (bkD b).length 0 [some (.tup (bkD b)), some (.int (d : Int)), some (.ref g.length), none] g1 = _ := (forL_tup _ _ _ _ _ _).trans e2
  show Ok (exs ⟨P, call P (N + 4), call P (N + 3), none⟩ (.c (.asg 2 (.lst .n)) (.c (.for_ (.one 3) (.seq (.loc 0)) lrBody) (.c (.ife (.cmp .eq (.bi .len (.c (.loc 0) .n)) (.cst (.int 0))) (.c (.ex (.met (.loc 2) "append" (.c (.tup (.c (.loc 1) (.c (.cst (.str "pass")) .n))) .n))) .n) .n) (.c (.ret (.loc 2)) .n)))) [some (.tup (bkD b)), some (.int (d : Int)), none, none] g) _
  have w : walkOf (.tup (bkD b)) g1 = some ((bkD b).length, .tup (bkD b)) := rfl
  have run : exs ⟨P, call P (N + 4), call P (N + 3), none⟩ (.c (.asg 2 (.lst .n)) (.c (.for_ (.one 3) (.seq (.loc 0)) lrBody) (.c (.ife (.cmp .eq (.bi .len (.c (.loc 0) .n)) (.cst (.int 0))) (.c (.ex (.met (.loc 2) "append" (.c (.tup (.c (.loc 1) (.c (.cst (.str "pass")) .n))) .n))) .n) .n) (.c (.ret (.loc 2)) .n)))) [some (.tup (bkD b)), some (.int (d : Int)), none, none] g = exs ⟨P, call P (N + 4), call P (N + 3), none⟩ (.c (.ife (.cmp .eq (.bi .len (.c (.loc 0) .n)) (.cst (.int 0))) (.c (.ex (.met (.loc 2) "append" (.c (.tup (.c (.loc 1) (.c (.cst (.str "pass")) .n))) .n))) .n) .n) (.c (.ret (.loc 2)) .n)) [some (.tup (bkD b)), some (.int (d : Int)), some (.ref f2), y4] g2 := by
    simp only [exs, exe, ev, evs, evI, orElse_some, bind_ok, List.getElem?_cons_zero, List.getElem?_cons_succ, newL_n, List.set_cons_succ, List.set_cons_zero, hG, w, e2]
  rw [run]
  cases b with
  | nil =>
    have hf2 : g2[f2]? = some (.lst []) := hf2
    have ap := app_ref hf2 (by rw [line_is]; simp) (.tup [.int (d : Nat), .str "pass"])
    simp [exs, exe, ev, evs, bkD, kind_lst hf2, ap]
    exact ⟨f2, rfl, gr2.set hf20 _, hf20, get_set hf2⟩
  | cons s b =>
    have h0 : ¬ ((bkD (.cons s b)).length : Int) = 0 := by rw [bkD_len]; simp only [bkLen]; omega
    have h00 : ¬ bkD (.cons s b) = [] := by simp [bkD]
    have e : orP d (bkR d (.cons s b)) = bkR d (.cons s b) := by
      have : bkR d (.cons s b) = smR d s ++ bkR d b := rfl
      rw [this]
      cases s <;> rfl
    rw [e]
    simp [exs, exe, ev, evs, h0, h00]
    exact ⟨_, rfl, gr2, hf20, hf2⟩
theorem lrows_ok (n : Nat) : ∀ (k d : Nat) (b : Bk) (g : G), bkW k b → (bkR d b).length ≤ 100000 → Ok (call P (n + k + 5) "" "_law_rows" [.tup (bkD b), .int (d : Int)] g) fun v g' => NewL g ((orP d (bkR d b)).map rwD) v g'
  | 0, d, b, g, hw, hl => lrows_step (N := n) (k := 0) (fun j hj => absurd hj (by omega)) b g hw hl
  | k + 1, d, b, g, hw, hl => lrows_step (N := n + (k + 1)) (k := k + 1) (fun j hj b g hw hl => by
      obtain rfl : k = j := by omega
      exact lrows_ok n k (d + 1) b g hw hl) b g hw hl
theorem lwhole_ok (n k : Nat) (b : Bk) (g : G) (hw : bkW k b) (hl : (bkR 1 b).length ≤ 90000) : Ok (call P (n + k + 6) "" "_law_whole" [.tup (bkD b)] g) fun v g' => NewL g ((wholeR b).map rwD) v g' := by
  refine body_run (n := n + k + 5) fn_lwhole rfl ?_
  have hf : (g ++ [.lst [rwD (0, cFor)]] : G)[g.length]? = some (.lst [rwD (0, cFor)]) := get_new _ _
  have gr : Gr g (g ++ [.lst [rwD (0, cFor)]]) := Gr.app _ _
  have n1 : newL [.tup [.int 0, .str "for item in items:"]] g = .ok (.ref g.length) (g ++ [.lst [rwD (0, cFor)]]) := newL_1 _ g
  generalize (g ++ [.lst [rwD (0, cFor)]] : G) = g1 at hf gr n1
  obtain ⟨v, g2, e2, i2, rfl, gr2, hi2, hx2⟩ := (lrows_ok n k 1 b g1 hw (by omega)).to
  have e2 : call P (n + k + 5) "" "_law_rows" [.tup (bkD b), .int 1] g1 = .ok (.ref i2) g2 := e2
  have hf2 := gr2.get hf
  have ol : (orP 1 (bkR 1 b)).length ≤ 90001 := by
    cases h : bkR 1 b with
    | nil => show 1 ≤ _; omega
    | cons x l => rw [h] at hl; show (x :: l).length ≤ _; omega
  have m1 := add_lst hf2 hx2 (by simp only [List.length_map, List.length_append, List.length_cons, List.length_nil]; omega)
  show Ok (exs ⟨P, call P (n + k + 5), call P (n + k + 4), none⟩ d__law_whole.body [some (.tup (bkD b))] g) _
  simp [-newL_1, d__law_whole, exs, exe, ev, evs, n1, e2, m1]
  exact ⟨_, rfl, (gr.trans gr2).trans (.app _ _), (gr.trans gr2).len, get_new _ _⟩
end UkW
end
section
set_option Elab.async false
set_option linter.all false
set_option maxRecDepth 100000
set_option autoImplicit false
set_option maxHeartbeats 1000000
namespace UkW
open Uk
open Mac (Wo Th Ot Nm Bs Pv Vl Wd Ts Sm Bk)
/-! ## Whole texts -/
theorem joinL_nil : ∀ l : List Cs, joinL' [] l = l.flatten
  | [] => rfl
  | [p] => by simp [joinL']
  | p :: q :: r => by
    show p ++ ([] ++ joinL' [] (q :: r)) = _
    rw [joinL_nil (q :: r)]
    try rfl
theorem strs_L : ∀ l : List Cs, strsD (strL l) = some (l.map T)
  | [] => rfl
  | x :: l => by
    show (strsD (strL l)).map (T x :: ·) = _
    rw [strs_L l]
    try rfl
theorem flat_len (m : Nat) : ∀ l : List Cs, (∀ x ∈ l, x.length ≤ m) → l.flatten.length ≤ l.length * m
  | [], _ => by simp
  | x :: l, h => by
    have h1 := h x (by simp)
    have h2 := flat_len m l fun y hy => h y (by simp [hy])
    rw [List.flatten_cons, List.length_append, List.length_cons, Nat.succ_mul]
    omega
theorem sum_len : ∀ l : List Cs, ((l.map T).map String.length).sum = l.flatten.length
  | [] => rfl
  | x :: l => by
    have := sum_len l
    simp only [List.map_cons, List.sum_cons, List.flatten_cons, List.length_append, T_len, this]
theorem join_ok {g : G} {a : Nat} {l : List Cs} (h : g[a]? = some (.lst (strL l))) (hl : l.flatten.length ≤ 1000000) : strM (.str "") "join" [.ref a] g = .ok (.str (T l.flatten)) g := by
  show (if "join" = "join" then orElse ((lsOf g a).bind strsD) fun ys => if (ys.map String.length).sum + ys.length * ("" : String).length ≤ 1000000 then .ok (.str (joinT "" ys)) g else .bad else .bad) = _
  rw [if_pos rfl, lsOf_eq h]
  show orElse (strsD (strL l)) _ = _
  rw [strs_L]
  show (if ((l.map T).map String.length).sum + (l.map T).length * 0 ≤ 1000000 then R.ok (D.str (joinT "" (l.map T))) g else .bad) = _
  rw [sum_len, if_pos (by omega), k_nil, T_join, joinL_nil]
/-- rows that a text can hold -/
structure LnsOk (l : List Ln) : Prop where
  len : l.length ≤ 3000
  row : ∀ p ∈ l, p.1 ≤ 50 ∧ p.2.length ≤ 60
theorem lin_len {p : Ln} (h : p.1 ≤ 50 ∧ p.2.length ≤ 60) : (linC p ++ ['\n']).length ≤ 261 := by
  unfold linC
  rw [List.length_append, List.length_append, bl_len]
  simp only [List.length_cons, List.length_nil]
  omega
theorem text_len {l : List Ln} (h : LnsOk l) : (textC l).length ≤ 783000 := by
  have := flat_len 261 (l.map fun p => linC p ++ ['\n']) fun x hx => by
    obtain ⟨p, hp, rfl⟩ := List.mem_map.mp hx
    exact lin_len (h.row p hp)
  have h2 := h.len
  rw [List.length_map] at this
  unfold textC
  omega
def lnF (x : D) : Option D := match x with
  | .tup [.int d, .str s] => some (.str (T (blC d.toNat) ++ s ++ T ['\n']))
  | _ => none
theorem lnF_row (p : Ln) : lnF (rwD p) = some (.str (T (linC p ++ ['\n']))) := by
  show some (D.str (T (blC ((p.1 : Nat) : Int).toNat) ++ T p.2 ++ T ['\n'])) = _
  rw [Int.toNat_natCast, T_app, T_app]
  try rfl
theorem fm_ln : ∀ l : List Ln, (l.map rwD).filterMap lnF = strL (l.map fun p => linC p ++ ['\n'])
  | [] => rfl
  | p :: l => by
    rw [List.map_cons, List.filterMap_cons, lnF_row]
    show _ :: _ = _ :: _
    rw [fm_ln l]
    try rfl
theorem ltext_ok (n : Nat) {g : G} {i : Nat} {l : List Ln} (h : LnsOk l) (hi : g[i]? = some (.lst (l.map rwD))) : Ok (call P (n + 1) "" "_law_text" [.ref i] g) fun v g' => Gr g g' ∧ v = .str (T (textC l)) := by
  refine body_run (n := n) fn_ltext rfl ?_
  have w := walk_ref hi
  have hc := h.len
  have ks : ∀ g, kindOf P (.str "") "join" g = some .str := fun _ => rfl
  show Ok (exs ⟨P, call P n, call P (n - 1), none⟩ d__law_text.body [some (.ref i), none, none] g) _
  simp [-List.append_assoc, d__law_text, exs, exe, ev, evs, evI, w, ks]
  refine Ok.mono (comp_fm2 g rfl rfl (xs := l.map rwD) lnF (by simp) (items_ref hi) (by rw [List.length_map, line_is]; omega) (fun x hx g1 hg1 => ?_)) (fun _ g2 q => ?_)
  · obtain ⟨p, hp, rfl⟩ := List.mem_map.mp hx
    have hr := h.row p hp
    have hm : binop .mul (.int 4) (.int (p.1 : Int)) g1 = .ok (.int (4 * (p.1 : Int))) g1 := mul_small _ _ _ (by omega)
    have hb := bl_mul p.1 (by omega) g1
    have bL := bl_len p.1
    have a1 := addT (a := blC p.1) (b := p.2) (by omega) g1
    have a2 := addT (a := blC p.1 ++ p.2) (b := ['\n']) (by rw [List.length_append]; simp; omega) g1
    have hb : binop .mul (.str " ") (.int (4 * (p.1 : Int))) g1 = .ok (.str (T (blC p.1))) g1 := hb
    rw [lnF_row]
    simp [-List.append_assoc, rwD, bindT, setAll, wipe, ev, hm, hb, a1, k_lf, a2]
    exact ⟨rfl, .refl _⟩
  · obtain ⟨gr2, hx2⟩ := q
    rw [fm_ln] at hx2
    have jn := join_ok hx2 (by have := text_len h; unfold textC at this; omega)
    simp [jn]
    exact ⟨gr2, rfl⟩
theorem prop_blk : P.prop "Loop" "own_block" = false := by rfl
end UkW
end
section
set_option Elab.async false
set_option linter.all false
set_option maxRecDepth 100000
set_option autoImplicit false
set_option maxHeartbeats 1000000
namespace UkW
open Uk
open Mac (Wo Th Ot Nm Bs Pv Vl Wd Ts Sm Bk)
/-! ## What is written is read back: plainly -/
/-- a line that begins with a sign and holds no line end -/
def Sol (t : Cs) : Prop := ∃ c r, t = c :: r ∧ c ≠ ' ' ∧ '\n' ∉ t
theorem pvC_nl {p : Pv} (h : pvDg p) : '\n' ∉ pvC p := by
  have : ∀ p ∈ allPv, '\n' ∉ pvC p := by decide
  exact this p (mem_allPv h)
theorem hdC_nl {s : Sm} (h : hdDg s) : '\n' ∉ hdC s := by
  cases s with
  | brk => decide
  | set x v =>
    have hv : '\n' ∉ vlC v := by
      cases v with
      | pv p => exact pvC_nl h
      | copy x => cases x with
        | item => decide
        | nm n => cases n <;> decide
    have hn : '\n' ∉ nmC x := by cases x <;> decide
    have hs : '\n' ∉ cSet := by decide
    show '\n' ∉ nmC x ++ cSet ++ vlC v
    simp only [List.mem_append, not_or]
    exact ⟨⟨hn, hs⟩, hv⟩
  | ifs t y n =>
    have hx := pvC_nl h.1
    have hy := pvC_nl h.2
    have hw : '\n' ∉ wdC t.w := by cases t.w <;> decide
    have he : '\n' ∉ endC t.w := by cases t.w <;> decide
    have h1 : '\n' ∉ cIf := by decide
    have h2 : '\n' ∉ cNot := by decide
    have h3 : '\n' ∉ [':'] := by decide
    have ht : '\n' ∉ tsC t := by
      unfold tsC t0C
      simp only [List.mem_append, not_or]
      refine ⟨?_, ⟨⟨hx, hw⟩, hy⟩, he⟩
      split
      · exact h2
      · simp
    show '\n' ∉ cIf ++ tsC t ++ [':']
    simp only [List.mem_append, not_or]
    exact ⟨⟨h1, ht⟩, h3⟩
theorem hdC_sol {s : Sm} (h : hdDg s) : Sol (hdC s) := by
  cases s with
  | brk => exact ⟨_, _, rfl, by decide, hdC_nl h⟩
  | set x v => cases x <;> exact ⟨_, _, rfl, by decide, hdC_nl h⟩
  | ifs t y n => exact ⟨_, _, rfl, by decide, hdC_nl h⟩
theorem pass_sol : Sol cPass := ⟨_, _, rfl, by decide, by decide⟩
theorem else_sol : Sol cElse := ⟨_, _, rfl, by decide, by decide⟩
theorem for_sol : Sol cFor := ⟨_, _, rfl, by decide, by decide⟩
/-! ### cut into lines -/
theorem pre_nl (c : Char) (r : Cs) : preL ['\n'] (c :: r) = decide (c = '\n') := by
  show (([c] : Cs) == ['\n']) = _
  by_cases h : c = '\n'
  · subst h; try rfl
  · rw [decide_eq_false h]
    exact beq_eq_false_iff_ne.mpr fun e => h (by injection e)
theorem spl_line : ∀ (x acc : Cs) (rest : Cs), '\n' ∉ x → splL ['\n'] 0 acc (x ++ '\n' :: rest) = (acc ++ x) :: splL ['\n'] 0 [] rest
  | [], acc, rest, _ => by
    show splL ['\n'] 0 acc ('\n' :: rest) = _
    conv => lhs; unfold splL
    rw [pre_nl, if_pos (by simp), List.append_nil]
    try rfl
  | c :: x, acc, rest, h => by
    have hc : ¬ c = '\n' := fun e => h (by rw [e]; exact List.mem_cons_self ..)
    show splL ['\n'] 0 acc (c :: (x ++ '\n' :: rest)) = _
    conv => lhs; unfold splL
    rw [pre_nl, if_neg (by simp [hc]), spl_line x (acc ++ [c]) rest fun hm => h (List.mem_cons_of_mem _ hm), List.append_assoc]
    try rfl
theorem bl_nl (d : Nat) : '\n' ∉ blC d := fun h => by
  have := List.eq_of_mem_replicate h
  exact absurd this (by decide)
def NoNl (l : List Ln) : Prop := ∀ p ∈ l, '\n' ∉ p.2
theorem lns_text : ∀ (l : List Ln) (rest : Cs), NoNl l → splL ['\n'] 0 [] (textC l ++ rest) = l.map linC ++ splL ['\n'] 0 [] rest
  | [], rest, _ => rfl
  | p :: l, rest, h => by
    have hp : '\n' ∉ linC p := by
      unfold linC
      rw [List.mem_append, not_or]
      exact ⟨bl_nl p.1, h p (List.mem_cons_self ..)⟩
    have e : textC (p :: l) ++ rest = linC p ++ '\n' :: (textC l ++ rest) := by
      unfold textC
      simp
    rw [e, spl_line (linC p) [] _ hp, lns_text l rest fun q hq => h q (List.mem_cons_of_mem _ hq)]
    try rfl
theorem lnsC_text {l : List Ln} (h : NoNl l) : lnsC (textC l) = l.map linC ++ [[]] := by
  have := lns_text l [] h
  rw [List.append_nil] at this
  exact this
/-! ### lines at their depth -/
theorem cut_to (a : Cs) (m : Nat) : cutC a none (some (m : Int)) = a.take m := by
  have h0 : ¬ ((m : Int) < 0) := by omega
  unfold cutC cutL sIxE
  simp only [h0, if_false, Int.toNat_natCast, Nat.sub_zero, List.drop_zero]
  by_cases h : m ≤ a.length
  · rw [Nat.min_eq_left h]
  · rw [Nat.min_eq_right (by omega), List.take_of_length_le (Nat.le_refl _), List.take_of_length_le (by omega)]
theorem cut_from (a : Cs) (m : Nat) : cutC a (some (m : Int)) none = a.drop m := by
  have h0 : ¬ ((m : Int) < 0) := by omega
  unfold cutC cutL sIxE
  simp only [h0, if_false, Int.toNat_natCast]
  by_cases h : m ≤ a.length
  · rw [Nat.min_eq_left h]
    exact List.take_of_length_le (by rw [List.length_drop]; omega)
  · rw [Nat.min_eq_right (by omega), List.drop_of_length_le (Nat.le_refl _), List.drop_of_length_le (by omega)]
    simp
theorem cut_one (a : Cs) (m : Nat) : cutC a (some (m : Int)) (some ((m : Int) + 1)) = (a.drop m).take 1 := by
  unfold cutC cutL sIxE
  have h0 : ¬ ((m : Int) < 0) := by omega
  have h1 : ¬ ((m : Int) + 1 < 0) := by omega
  simp only [h0, h1, if_false]
  rw [Int.toNat_natCast, show ((m : Int) + 1).toNat = m + 1 from by omega]
  by_cases h : m < a.length
  · rw [Nat.min_eq_left (by omega), Nat.min_eq_left (by omega)]
    rw [show m + 1 - m = 1 from by omega]
  · rw [Nat.min_eq_right (by omega), Nat.min_eq_right (by omega), List.drop_of_length_le (by omega), List.drop_of_length_le (by omega)]
    simp
theorem here_def (d : Nat) (r : Cs) (rest : List Cs) : hereC d (r :: rest) = if r.take (4 * d) = blC d ∧ ¬ (r.drop (4 * d)).take 1 = [' '] then r.drop (4 * d) else [] := by
  show (if cutC r none (some ((4 * d : Nat) : Int)) = blC d ∧ ¬ cutC r (some ((4 * d : Nat) : Int)) (some ((4 * d : Nat) + 1 : Int)) = [' '] then cutC r (some ((4 * d : Nat) : Int)) none else []) = _
  rw [cut_to, cut_one, cut_from]
theorem here_same {d : Nat} {t : Cs} (h : Sol t) (rest : List Cs) : hereC d (linC (d, t) :: rest) = t := by
  obtain ⟨c, r, rfl, hc, _⟩ := h
  rw [here_def]
  have e1 : (linC (d, c :: r)).take (4 * d) = blC d := by
    unfold linC
    rw [List.take_append_of_le_length (by rw [bl_len]; exact Nat.le_refl _), List.take_of_length_le (by rw [bl_len]; exact Nat.le_refl _)]
  have e2 : (linC (d, c :: r)).drop (4 * d) = c :: r := by
    unfold linC
    rw [List.drop_append_of_le_length (by rw [bl_len]; exact Nat.le_refl _), List.drop_of_length_le (by rw [bl_len]; exact Nat.le_refl _)]
    try rfl
  rw [e1, e2, if_pos ⟨rfl, fun e => hc (by injection e)⟩]
theorem here_less {d d' : Nat} (hd : d' < d) {t : Cs} (h : Sol t) (rest : List Cs) : hereC d (linC (d', t) :: rest) = [] := by
  obtain ⟨c, r, rfl, hc, _⟩ := h
  rw [here_def, if_neg]
  rintro ⟨e, _⟩
  have e2 : ((linC (d', c :: r)).take (4 * d))[4 * d']? = (blC d)[4 * d']? := by rw [e]
  have hb : (blC d)[4 * d']? = some ' ' := by
    unfold blC
    rw [List.getElem?_replicate, if_pos (by omega)]
  have hl : ((linC (d', c :: r)).take (4 * d))[4 * d']? = some c := by
    rw [List.getElem?_take_of_lt (by omega)]
    unfold linC
    rw [List.getElem?_append_right (by rw [bl_len]; exact Nat.le_refl _), bl_len]
    simp
  rw [hl, hb] at e2
  exact hc (by injection e2)
theorem here_more {d d' : Nat} (hd : d < d') (t : Cs) (rest : List Cs) : hereC d (linC (d', t) :: rest) = [] := by
  rw [here_def, if_neg]
  rintro ⟨_, e⟩
  apply e
  unfold linC
  have : blC d' = blC d ++ ' ' :: List.replicate (4 * d' - 4 * d - 1) ' ' := by
    unfold blC
    rw [← List.replicate_succ, List.replicate_append_replicate]
    congr 1
    omega
  rw [this]
  have e3 : (blC d ++ ' ' :: List.replicate (4 * d' - 4 * d - 1) ' ' ++ t).drop (4 * d) = ' ' :: (List.replicate (4 * d' - 4 * d - 1) ' ' ++ t) := by
    rw [List.append_assoc, List.drop_append_of_le_length (by rw [bl_len]; exact Nat.le_refl _), List.drop_of_length_le (by rw [bl_len]; exact Nat.le_refl _)]
    try rfl
  rw [e3]
  try rfl
theorem here_nil (d : Nat) : hereC d [] = [] := rfl
theorem rd_nil : rdHd [] = none := by decide +kernel
theorem rd_pass : rdHd cPass = none := by decide +kernel
/-- what may stand behind a block at depth d -/
def Sh (d : Nat) (rest : List Cs) : Prop := rest = [] ∨ ∃ d' t r, d' < d ∧ rest = linC (d', t) :: r ∧ Sol t
theorem Sh.here {d : Nat} {rest : List Cs} (h : Sh d rest) : hereC d rest = [] := by
  rcases h with rfl | ⟨d', t, r, hd, rfl, hs⟩
  · rfl
  · exact here_less hd hs r
theorem Sh.up {d : Nat} {rest : List Cs} (h : Sh d rest) : Sh (d + 1) rest := by
  rcases h with rfl | ⟨d', t, r, hd, rfl, hs⟩
  · exact .inl rfl
  · exact .inr ⟨d', t, r, by omega, rfl, hs⟩
theorem bkR_cons (d : Nat) (s : Sm) (b : Bk) : bkR d (.cons s b) = smR d s ++ bkR d b := rfl
theorem smR_head (d : Nat) (s : Sm) : ∃ l, smR d s = (d, hdC s) :: l := by
  cases s <;> exact ⟨_, rfl⟩
theorem bkR_len (d : Nat) : ∀ b : Bk, bkLen b ≤ (bkR d b).length
  | .nil => Nat.zero_le _
  | .cons s b => by
    have := bkR_len d b
    obtain ⟨l, e⟩ := smR_head d s
    rw [bkR_cons, e, List.length_append, List.length_cons]
    show bkLen b + 1 ≤ _
    omega
/-- what follows a statement, seen from below -/
theorem sh_next {k d : Nat} {b : Bk} {rest : List Cs} (hb : bkW k b) (h : Sh d rest) : Sh (d + 1) ((bkR d b).map linC ++ rest) := by
  cases b with
  | nil => exact h.up
  | cons s b =>
    unfold bkW at hb
    obtain ⟨l, e⟩ := smR_head d s
    refine .inr ⟨d, hdC s, (l ++ bkR d b).map linC ++ rest, by omega, ?_, hdC_sol (smW_hd hb.1)⟩
    rw [bkR_cons, e]
    try rfl
theorem rd_many {n k d : Nat} (IH : ∀ j, k = j + 1 → ∀ (b : Bk) (rest : List Cs), bkW j b → Sh (d + 1) rest → rdBlk n (d + 1) ((orP (d + 1) (bkR (d + 1) b)).map linC ++ rest) = .ok b rest) :
    ∀ (b : Bk) (rest : List Cs) (m : Nat), bkW k b → Sh d rest → bkLen b < m → rdMany (rdBlk n (d + 1)) d m ((bkR d b).map linC ++ rest) = .ok b rest
  | .nil, rest, m + 1, _, hr, _ => by
    show rdMany _ d (m + 1) rest = _
    unfold rdMany
    rw [hr.here, rd_nil]
  | .cons s b, rest, m + 1, hw, hr, hm => by
    unfold bkW at hw
    obtain ⟨hs, hb⟩ := hw
    have hm : bkLen b + 1 < m + 1 := hm
    have go := rd_many IH b rest m hb hr (by omega)
    have hd := smW_hd hs
    obtain ⟨l, e⟩ := smR_head d s
    have e0 : (bkR d (.cons s b)).map linC ++ rest = linC (d, hdC s) :: (l.map linC ++ ((bkR d b).map linC ++ rest)) := by
      rw [bkR_cons, e]
      simp
    rw [e0]
    unfold rdMany
    rw [here_same (hdC_sol hd), rd_head hd]
    cases s with
    | brk =>
      obtain rfl : l = [] := by injection e with _ e; exact e.symm
      show (Out.ok Sm.brk ([] ++ _)).bind _ = _
      show (rdMany _ d m ((bkR d b).map linC ++ rest)).bind _ = _
      rw [go]
      try rfl
    | set x v =>
      obtain rfl : l = [] := by injection e with _ e; exact e.symm
      show (rdMany _ d m ((bkR d b).map linC ++ rest)).bind _ = _
      rw [go]
      try rfl
    | ifs t y z =>
      unfold smW at hs
      obtain ⟨_, j, hj, hy, hz⟩ := hs
      obtain rfl : l = orP (d + 1) (bkR (d + 1) y) ++ (d, cElse) :: orP (d + 1) (bkR (d + 1) z) := by injection e with _ e; exact e.symm
      have e1 : (orP (d + 1) (bkR (d + 1) y) ++ (d, cElse) :: orP (d + 1) (bkR (d + 1) z)).map linC ++ ((bkR d b).map linC ++ rest) = (orP (d + 1) (bkR (d + 1) y)).map linC ++ (linC (d, cElse) :: ((orP (d + 1) (bkR (d + 1) z)).map linC ++ ((bkR d b).map linC ++ rest))) := by simp
      rw [e1]
      have r1 := IH j hj y (linC (d, cElse) :: ((orP (d + 1) (bkR (d + 1) z)).map linC ++ ((bkR d b).map linC ++ rest))) hy (.inr ⟨d, cElse, _, by omega, rfl, else_sol⟩)
      have r2 := IH j hj z ((bkR d b).map linC ++ rest) hz (sh_next hb hr)
      show ((rdSt (rdBlk n (d + 1)) d (.ifs t) _)).bind _ = _
      have st : rdSt (rdBlk n (d + 1)) d (.ifs t) (linC (d, hdC (.ifs t y z)) :: ((orP (d + 1) (bkR (d + 1) y)).map linC ++ (linC (d, cElse) :: ((orP (d + 1) (bkR (d + 1) z)).map linC ++ ((bkR d b).map linC ++ rest))))) = .ok (.ifs t y z) ((bkR d b).map linC ++ rest) := by
        show (rdBlk n (d + 1) ((orP (d + 1) (bkR (d + 1) y)).map linC ++ (linC (d, cElse) :: ((orP (d + 1) (bkR (d + 1) z)).map linC ++ ((bkR d b).map linC ++ rest))))).bind _ = _
        rw [r1]
        show (if hereC d (linC (d, cElse) :: _) = cElse then _ else _) = _
        rw [if_pos (here_same else_sol _)]
        show (rdBlk n (d + 1) ((orP (d + 1) (bkR (d + 1) z)).map linC ++ ((bkR d b).map linC ++ rest))).bind _ = _
        rw [r2]
        try rfl
      rw [st]
      show (rdMany _ d m ((bkR d b).map linC ++ rest)).bind _ = _
      rw [go]
      try rfl
theorem rd_step {n k d : Nat} (IH : ∀ j, k = j + 1 → ∀ (b : Bk) (rest : List Cs), bkW j b → Sh (d + 1) rest → rdBlk n (d + 1) ((orP (d + 1) (bkR (d + 1) b)).map linC ++ rest) = .ok b rest) (b : Bk) (rest : List Cs) (hw : bkW k b) (hr : Sh d rest) : rdBlk (n + 1) d ((orP d (bkR d b)).map linC ++ rest) = .ok b rest := by
  cases b with
  | nil =>
    show (if hereC d (linC (d, cPass) :: rest) = cPass then _ else _) = _
    rw [if_pos (here_same pass_sol rest)]
    try rfl
  | cons s b =>
    obtain ⟨l, e⟩ := smR_head d s
    have eo : orP d (bkR d (.cons s b)) = bkR d (.cons s b) := by rw [bkR_cons, e]; try rfl
    rw [eo]
    have hw2 := hw
    unfold bkW at hw2
    have hd := smW_hd hw2.1
    have e0 : (bkR d (.cons s b)).map linC ++ rest = linC (d, hdC s) :: ((l ++ bkR d b).map linC ++ rest) := by
      rw [bkR_cons, e]
      try rfl
    have hn : ¬ hereC d ((bkR d (.cons s b)).map linC ++ rest) = cPass := by
      rw [e0, here_same (hdC_sol hd)]
      intro h
      have := rd_head hd
      rw [h, rd_pass] at this
      cases this
    have hm := rd_many IH (.cons s b) rest (((bkR d (.cons s b)).map linC ++ rest).length + 1) hw hr (by
      have := bkR_len d (.cons s b)
      rw [List.length_append, List.length_map]
      omega)
    show (if hereC d ((bkR d (.cons s b)).map linC ++ rest) = cPass then _ else (rdMany (rdBlk n (d + 1)) d (((bkR d (.cons s b)).map linC ++ rest).length + 1) ((bkR d (.cons s b)).map linC ++ rest)).bind _) = _
    rw [if_neg hn, hm]
    try rfl
theorem rd_back : ∀ (k n d : Nat) (b : Bk) (rest : List Cs), bkW k b → Sh d rest → rdBlk (n + k + 1) d ((orP d (bkR d b)).map linC ++ rest) = .ok b rest
  | 0, n, d, b, rest, hw, hr => rd_step (n := n) (k := 0) (fun j hj => absurd hj (by omega)) b rest hw hr
  | k + 1, n, d, b, rest, hw, hr => rd_step (n := n + k + 1) (k := k + 1) (fun j hj b rest hw hr => by
      obtain rfl : k = j := by omega
      exact rd_back k n (d + 1) b rest hw hr) b rest hw hr
mutual
theorem smR_nl {k : Nat} : ∀ (d : Nat) (s : Sm), smW k s → NoNl (smR d s)
  | d, .brk, h => by
    intro p hp
    rw [show smR d .brk = [(d, hdC .brk)] from rfl, List.mem_singleton] at hp
    subst hp
    exact hdC_nl (s := .brk) trivial
  | d, .set x v, h => by
    intro p hp
    rw [show smR d (.set x v) = [(d, hdC (.set x v))] from rfl, List.mem_singleton] at hp
    subst hp
    exact hdC_nl (smW_hd h)
  | d, .ifs t y z, h => by
    have hh := hdC_nl (smW_hd h)
    unfold smW at h
    obtain ⟨_, j, _, hy, hz⟩ := h
    have h1 := bkR_nl (d + 1) y hy
    have h2 := bkR_nl (d + 1) z hz
    have or : ∀ l, NoNl l → NoNl (orP (d + 1) l) := fun l hl => by
      cases l with
      | nil => intro p hp; rw [show orP (d + 1) [] = [(d + 1, cPass)] from rfl, List.mem_singleton] at hp; subst hp; exact (by decide : '\n' ∉ cPass)
      | cons x l => exact hl
    intro p hp
    rw [show smR d (.ifs t y z) = (d, hdC (.ifs t y z)) :: (orP (d + 1) (bkR (d + 1) y) ++ (d, cElse) :: orP (d + 1) (bkR (d + 1) z)) from rfl] at hp
    rcases List.mem_cons.mp hp with rfl | hp
    · exact hh
    · rcases List.mem_append.mp hp with hp | hp
      · exact or _ h1 p hp
      · rcases List.mem_cons.mp hp with rfl | hp
        · exact (by decide : '\n' ∉ cElse)
        · exact or _ h2 p hp
theorem bkR_nl {k : Nat} : ∀ (d : Nat) (b : Bk), bkW k b → NoNl (bkR d b)
  | d, .nil, h => by
    intro p hp
    exact absurd hp (by rw [show bkR d .nil = [] from rfl]; simp)
  | d, .cons s b, h => by
    unfold bkW at h
    intro p hp
    rw [bkR_cons] at hp
    rcases List.mem_append.mp hp with hp | hp
    · exact smR_nl d s h.1 p hp
    · exact bkR_nl d b h.2 p hp
end
theorem whole_nl {k : Nat} {b : Bk} (h : bkW k b) : NoNl (wholeR b) := by
  intro p hp
  rcases List.mem_cons.mp hp with rfl | hp
  · exact (by decide : '\n' ∉ cFor)
  · have := bkR_nl 1 b h
    cases hb : bkR 1 b with
    | nil => rw [hb, show orP 1 [] = [(1, cPass)] from rfl, List.mem_singleton] at hp; subst hp; exact (by decide : '\n' ∉ cPass)
    | cons x l => rw [hb] at hp this; exact this p hp
theorem rdAll_back {k : Nat} (n : Nat) {b : Bk} (h : bkW k b) : rdAll (n + k + 1) (textC (wholeR b)) = .ok b [] := by
  unfold rdAll
  rw [lnsC_text (whole_nl h), List.dropLast_concat]
  have e : (wholeR b).map linC = linC (0, cFor) :: (orP 1 (bkR 1 b)).map linC := rfl
  have hb := rd_back k n 1 b [] h (.inl rfl)
  rw [List.append_nil] at hb
  rw [e, if_pos (here_same for_sol _)]
  show (rdBlk (n + k + 1) 1 ((orP 1 (bkR 1 b)).map linC)).bind _ = _
  rw [hb]
  show (if ([] : List Cs) ≠ [] ∨ _ then _ else _) = _
  have hgl : ((linC (0, cFor) :: (orP 1 (bkR 1 b)).map linC) ++ [[]]).getLast? = some [] := List.getLast?_concat
  rw [if_neg (by rw [hgl]; simp)]
end UkW
end
section
set_option Elab.async false
set_option linter.all false
set_option maxRecDepth 100000
set_option autoImplicit false
set_option maxHeartbeats 1000000
namespace UkW
open Uk
open Mac (Wo Th Ot Nm Bs Pv Vl Wd Ts Sm Bk)
theorem nc : P.cls "bool" = false ∧ P.cls "int" = false ∧ P.cls "str" = false ∧ P.cls "dict" = false ∧ P.cls "tuple" = false ∧ P.cls "list" = false := ⟨rfl, rfl, rfl, rfl, rfl, rfl⟩
theorem LoopT.mono {g g' : G} {a : Nat} {b : Bk} (h : LoopT g a b) (k : Gr g g') : LoopT g' a b := LoopAt.mono h fun _ _ e => k.get e
/-! ## _law_equal, of equal things -/
theorem fn_equal : P.fn "" "_law_equal" = some d__law_equal := by rfl
def Eql (n : Nat) (x : D) : Prop := ∀ g, Ok (call P n "" "_law_equal" [x, x] g) fun v g' => v = .bl true ∧ Gr g g'
theorem equal_0 (n : Nat) (x : D) (hx : x.dep = 0) : Eql (n + 1) x := by
  intro g
  refine body_run fn_equal rfl ?_
  obtain ⟨c1, c2, c3, c4, c5, c6⟩ := nc
  cases x with
  | ref a => unfold D.dep at hx; omega
  | fro a => unfold D.dep at hx; omega
  | tup a => unfold D.dep at hx; omega
  | non => simp [d__law_equal, exs, exe, ev, evs, D.isNon]; exact .refl _
  | bl b => simp [d__law_equal, exs, exe, ev, evs, D.isNon, isInst, c1, isType]; exact .refl _
  | int i => simp [d__law_equal, exs, exe, ev, evs, D.isNon, isInst, c1, c2, isType]; exact .refl _
  | str s => simp [d__law_equal, exs, exe, ev, evs, D.isNon, isInst, c1, c2, c3, isType]; exact .refl _
theorem all_true {g : G} {c : Cx} {a n : Nat} (h : g[a]? = some (.lst ((List.range n).filterMap fun _ => some (D.bl true)))) : builtin c .all [.ref a] g = .ok (.bl true) g := by
  have e : (List.range n).filterMap (fun _ => some (D.bl true)) = ((List.range n).map fun _ => true).map D.bl := by
    rw [List.map_map, ← List.filterMap_eq_map]
    try rfl
  rw [e] at h
  rw [all_ref h]
  congr 2
  simp
theorem equal_tup (n : Nat) (xs : List D) (hl : xs.length ≤ 1000) (hx : ∀ x, x ∈ xs → Eql n x) : Eql (n + 1) (.tup xs) := by
  intro g
  refine body_run fn_equal rfl ?_
  obtain ⟨c1, c2, c3, c4, c5, c6⟩ := nc
  have hr : rng1 (.int (xs.length : Int)) = some (xs.length, .rng 0 1) := rng1_ok _ (by omega)
  simp [d__law_equal, exs, exe, ev, evs, D.isNon, isInst, c1, c2, c3, c4, c5, c6, isType, evI, hr]
  refine Ok.mono (comp_fm (xs := (List.range xs.length).map fun (j : Nat) => D.int (j : Int)) (fun _ => some (.bl true)) (by simp) items_rng (by simp; omega) fun x hxm g2 hg2 => ?_) fun _ g2 ⟨h1, h2⟩ => ?_
  · obtain ⟨j, hj, rfl⟩ := List.mem_map.mp hxm
    have hj : j < xs.length := by simpa using hj
    obtain ⟨v, g3, e3, rfl, h3⟩ := (hx _ (List.getElem_mem hj) g2).to
    simp [bindT, Uk.wipe, getIx_nat hj, e3]
    exact h3
  · rw [List.filterMap_map] at h2
    simp [all_true h2]
    exact h1
theorem runF_eq {c : Cx} {fd : FDef} {args : List D} {g : G} (hl : args.length = fd.ps.length) : runF c fd args g = (exs c fd.body (args.map some ++ List.replicate (fd.N.length - args.length) none) g).bind fun z g => match z.2 with
    | .nx => .ok .non g
    | .rt d => .ok d g := if_pos hl
/-! ## Blocks are data -/
theorem deps_le {k : Nat} : ∀ {xs : List D}, (∀ x, x ∈ xs → x.dep ≤ k) → D.deps xs ≤ k
  | [], _ => by unfold D.deps; omega
  | x :: xs, h => by
    unfold D.deps
    have h1 := h x List.mem_cons_self
    have h2 := deps_le fun y hy => h y (List.mem_cons_of_mem _ hy)
    omega
theorem part_dep : ∀ {k : Nat} {p : D}, Part k p → p.dep ≤ k
  | 0, p, h => by cases h
  | k + 1, p, h => by
    cases h with
    | «at» _ x hx => simp [D.dep, D.deps, hx]
    | op _ hd hh ps hl hp =>
      have := deps_le fun x hx => part_dep (hp x hx)
      simp [D.dep, D.deps]
      exact this
theorem stD_dep : ∀ {k : Nat} {s : D}, St k s → s.dep ≤ 5 + 2 * k := by
  intro k s h
  induction h with
  | brk k => simp [D.dep, D.deps]; omega
  | set k x v hv =>
    have := part_dep hv
    simp [D.dep, D.deps]
    omega
  | if_ k t ht a b la lb ha hb iha ihb =>
    have h1 := part_dep ht
    have h2 := deps_le iha
    have h3 := deps_le ihb
    simp [D.dep, D.deps]
    omega
theorem Blk.ok {b : List D} (h : Blk b) : (D.tup b).ok = true := by
  have := deps_le fun x hx => stD_dep (h.st x hx)
  refine decide_eq_true ?_
  unfold D.dep
  omega
/-! ## Loops of one block are equal -/
theorem LoopT.own {g : G} {a : Nat} {b : Bk} (h : LoopT g a b) (c1 c2 cu) : attr ⟨P, c1, c2, cu⟩ (.ref a) "own_block" g = .ok (.tup (bkD b)) g := by
  obtain ⟨j, h1, h2⟩ := h
  exact att_ref (c := ⟨P, c1, c2, cu⟩) h1 (by rfl) (by rfl) (by rfl) rfl
theorem fn_eqL : P.fn "Loop" "__eq__" = some d_LoopU_eqU := by rfl
theorem eq_same (n : Nat) {g : G} {a a2 : Nat} {b : Bk} (hb : (D.tup (bkD b)).ok = true) (h : LoopT g a b) (h2 : LoopT g a2 b) : call P (n + 1) "Loop" "__eq__" [.ref a, .ref a2] g = .ok (.bl true) g := by
  have o1 := h.own (call P n) (call P (n - 1)) none
  have o2 := h2.own (call P n) (call P (n - 1)) none
  have qd := fun c : Cx => eq_data c (g := g) hb hb
  have rf := eqv_refl _ hb
  have ii : isInst ⟨P, call P n, call P (n - 1), none⟩ g (.ref a2) "Loop" = some true := by
    obtain ⟨j, h3, _⟩ := h2
    have c0 : P.cls "Loop" = true := by rfl
    unfold isInst
    rw [if_pos c0]
    dsimp only
    rw [h3]
    dsimp only
    rw [if_pos c0]
    try rfl
  rw [call_fn fn_eqL, runF_eq (by rfl)]
  show R.bind (exs ⟨P, call P n, call P (n - 1), none⟩ d_LoopU_eqU.body [some (.ref a), some (.ref a2)] g) _ = _
  generalize D.tup (bkD b) = B at *
  rw [rf] at qd
  have ef : exs ⟨P, call P n, call P (n - 1), none⟩ d_LoopU_eqU.body [some (.ref a), some (.ref a2)] g = .ok ([some (.ref a), some (.ref a2)], .rt (.bl true)) g := by
    simp [d_LoopU_eqU, exs, exe, ev, ii, o1, o2, qd]
  rw [ef]
  try rfl
theorem ne_same (n : Nat) (f1 : String → String → List D → G → R D) (cu : Option Exn) {g : G} {a a2 : Nat} {b : Bk} (hb : (D.tup (bkD b)).ok = true) (h : LoopT g a b) (h2 : LoopT g a2 b) : cmpop ⟨P, f1, call P (n + 1), cu⟩ .ne (.ref a) (.ref a2) g = .ok (.bl false) g := by
  obtain ⟨j, q1, _⟩ := id h
  obtain ⟨j2, q2, _⟩ := id h2
  have hn : neOk g (.ref a) (.ref a2) = true := by
    unfold neOk
    dsimp only
    rw [q1]
    dsimp only
    rw [q2]
    try rfl
  have hy : eqRight g "Loop" (.ref a2) = true := by
    unfold eqRight
    dsimp only
    rw [q2]
    try rfl
  have c : (P.cls "Loop" && !P.prop "Loop" "__eq__" && eqRight g "Loop" (.ref a2)) = true := by
    rw [hy]
    try rfl
  have eo : eqOp ⟨P, f1, call P (n + 1), cu⟩ (.ref a) (.ref a2) g = .ok true g := by
    unfold eqOp
    dsimp only
    rw [q1]
    dsimp only
    rw [if_pos c, eq_same n hb h h2]
    try rfl
  show (if neOk g (.ref a) (.ref a2) then (eqOp _ _ _ g).bind _ else _) = _
  rw [if_pos hn, eo]
  try rfl
/-! ## More -/
theorem fn_block : P.fn "Loop" "block" = some d_Loop_block := by rfl
theorem att_prop {c : Cx} {g : G} {a : Nat} {k f : String} {fs : List (String × D)} (h : g[a]? = some (.ins k fs)) (hc : c.P.cls k = true) (hp : c.P.prop k f = true) : attr c (.ref a) f g = noX (c.call1 k f [.ref a] g) := by
  unfold attr
  dsimp only
  rw [h]
  dsimp only
  rw [hc, hp]
  try rfl
theorem LoopT.block {g : G} {a : Nat} {b : Bk} (h : LoopT g a b) (n : Nat) (c1 cu) : attr ⟨P, c1, call P (n + 1), cu⟩ (.ref a) "block" g = .ok (.tup (bkD b)) g := by
  have h0 := h
  obtain ⟨j, h1, h2⟩ := h
  rw [att_prop h1 (by rfl) (by rfl)]
  show noX (call P (n + 1) "Loop" "block" [.ref a] g) = _
  rw [call_fn fn_block, runF_eq (by rfl)]
  show noX (R.bind (exs ⟨P, call P n, call P (n - 1), none⟩ d_Loop_block.body [some (.ref a)] g) _) = _
  have o := h0.own (call P n) (call P (n - 1)) none
  simp [d_Loop_block, exs, exe, ev, o]
  try rfl
mutual
def lenP : D → Prop
  | .tup xs => xs.length ≤ 1000 ∧ lenPs xs
  | _ => True
def lenPs : List D → Prop
  | [] => True
  | x :: xs => lenP x ∧ lenPs xs
end
theorem lenPs_all : ∀ {xs : List D}, lenPs xs → ∀ x ∈ xs, lenP x
  | [], _, x, h => by cases h
  | a :: xs, q, x, h => by
    rcases List.mem_cons.mp h with e | h
    · rw [e]; exact q.1
    · exact lenPs_all q.2 x h
theorem lenPs_of : ∀ {xs : List D}, (∀ x ∈ xs, lenP x) → lenPs xs
  | [], _ => trivial
  | a :: xs, q => ⟨q a List.mem_cons_self, lenPs_of fun x h => q x (List.mem_cons_of_mem _ h)⟩
theorem dep_in {xs : List D} {k : Nat} (h : D.deps xs ≤ k) : ∀ y ∈ xs, y.dep ≤ k := fun y hy => by
  have : ∀ (l : List D), y ∈ l → y.dep ≤ D.deps l := by
    intro l
    induction l with
    | nil => intro z; cases z
    | cons a l ih2 =>
      intro z
      unfold D.deps
      rcases List.mem_cons.mp z with z | z
      · rw [z]; exact Nat.le_max_left _ _
      · exact Nat.le_trans (ih2 z) (Nat.le_max_right _ _)
  exact Nat.le_trans (this xs hy) h
theorem eql_dep (n : Nat) : ∀ (k : Nat) (x : D), x.dep ≤ k → k ≤ 60 → lenP x → Eql (n + k + 1) x
  | 0, x, hx, _, _ => equal_0 n x (by omega)
  | k + 1, x, hx, hk, hl => by
    cases x with
    | tup xs =>
      have hd : D.deps xs ≤ k := by unfold D.dep at hx; omega
      exact equal_tup (n + k + 1) xs hl.1 fun y hy => eql_dep n k y (dep_in hd y hy) (by omega) (lenPs_all hl.2 y hy)
    | ref a => exact absurd hx (by show ¬ (1000 ≤ k + 1); omega)
    | fro a => exact absurd hx (by show ¬ (1000 ≤ k + 1); omega)
    | non => exact equal_0 (n + (k + 1)) _ rfl
    | bl b => exact equal_0 (n + (k + 1)) _ rfl
    | int i => exact equal_0 (n + (k + 1)) _ rfl
    | str s => exact equal_0 (n + (k + 1)) _ rfl
end UkW
end
section
set_option Elab.async false
set_option linter.all false
set_option maxRecDepth 100000
set_option autoImplicit false
set_option maxHeartbeats 1000000
namespace UkW
open Uk
open Mac (Wo Th Ot Nm Bs Pv Vl Wd Ts Sm Bk)
/-! ## Loops of few statements are short texts -/
theorem pvOk_dg {p : Pv} (h : pvOk p) : pvDg p := by
  cases p with
  | «at» k => exact ⟨h.1, by have := h.2; omega⟩
  | bs x => trivial
  | none => trivial
theorem vlOk_dg {v : Vl} (h : vlOk v) : vlDg v := by
  cases v with
  | pv p => exact pvOk_dg h
  | copy x => trivial
mutual
theorem smOk_W : ∀ {k : Nat} (s : Sm), smOk k s → smW k s
  | _, .brk, _ => by unfold smW; trivial
  | _, .set _ v, h => by unfold smOk at h; unfold smW; exact vlOk_dg h
  | _, .ifs t y n, h => by
    unfold smOk at h
    unfold smW
    obtain ⟨h1, j, h2, _, _, h3, h4⟩ := h
    exact ⟨⟨pvOk_dg h1.1, pvOk_dg h1.2⟩, j, h2, bkOk_W y h3, bkOk_W n h4⟩
theorem bkOk_W : ∀ {k : Nat} (b : Bk), bkOk k b → bkW k b
  | _, .nil, _ => by unfold bkW; trivial
  | _, .cons s b, h => by
    unfold bkOk at h
    unfold bkW
    exact ⟨smOk_W s h.1, bkOk_W b h.2⟩
end
theorem orP_or (d : Nat) (l : List Ln) : (orP d l).length ≤ l.length + 1 := by
  cases l with
  | nil => show 1 ≤ _; omega
  | cons x l => show (x :: l).length ≤ _; omega
mutual
theorem smR_few : ∀ (d : Nat) (p : List Int) (s : Sm), (smR d s).length ≤ 4 + 4 * (rowsS p s).length
  | d, p, .brk => by show 1 ≤ _; omega
  | d, p, .set x v => by show 1 ≤ _; omega
  | d, p, .ifs t y n => by
    have h1 := bkR_few (d + 1) (p ++ [0]) 0 y
    have h2 := bkR_few (d + 1) (p ++ [1]) 0 n
    have h3 := orP_or (d + 1) (bkR (d + 1) y)
    have h4 := orP_or (d + 1) (bkR (d + 1) n)
    have e : (smR d (.ifs t y n)).length = (orP (d + 1) (bkR (d + 1) y)).length + ((orP (d + 1) (bkR (d + 1) n)).length + 1) + 1 := by
      rw [show smR d (.ifs t y n) = (d, hdC (.ifs t y n)) :: (orP (d + 1) (bkR (d + 1) y) ++ (d, cElse) :: orP (d + 1) (bkR (d + 1) n)) from rfl, List.length_cons, List.length_append, List.length_cons]
    have e2 : (rowsS p (.ifs t y n)).length = (rowsT (p ++ [0]) 0 y).length + (rowsT (p ++ [1]) 0 n).length := by
      rw [show rowsS p (.ifs t y n) = rowsT (p ++ [0]) 0 y ++ rowsT (p ++ [1]) 0 n from rfl, List.length_append]
    omega
theorem bkR_few : ∀ (d : Nat) (p : List Int) (i : Int) (b : Bk), (bkR d b).length ≤ 4 * (rowsT p i b).length
  | d, p, i, .nil => Nat.zero_le _
  | d, p, i, .cons s b => by
    have h1 := smR_few d (p ++ [i]) s
    have h2 := bkR_few d p (i + 1) b
    have e2 : (rowsT p i (.cons s b)).length = 1 + (rowsS (p ++ [i]) s).length + (rowsT p (i + 1) b).length := by
      rw [show rowsT p i (.cons s b) = (p ++ [i], s) :: rowsS (p ++ [i]) s ++ rowsT p (i + 1) b from rfl, List.length_append, List.length_cons]
      omega
    rw [bkR_cons, List.length_append]
    omega
end
def RowIn (m : Nat) (l : List Ln) : Prop := ∀ p ∈ l, p.1 ≤ m ∧ p.2.length ≤ 60
theorem orP_in {m d : Nat} (hd : d ≤ m) {l : List Ln} (h : RowIn m l) : RowIn m (orP d l) := by
  cases l with
  | nil =>
    intro p hp
    rw [show orP d [] = [(d, cPass)] from rfl, List.mem_singleton] at hp
    subst hp
    exact ⟨hd, by show cPass.length ≤ 60; decide⟩
  | cons x l => exact h
mutual
theorem smR_in {m : Nat} : ∀ {k : Nat} (d : Nat) (s : Sm), d + k ≤ m → smW k s → RowIn m (smR d s)
  | k, d, .brk, hd, h => by
    intro p hp
    rw [show smR d .brk = [(d, hdC .brk)] from rfl, List.mem_singleton] at hp
    subst hp
    exact ⟨by show d ≤ m; omega, by have := hdC_len .brk; show (hdC .brk).length ≤ 60; omega⟩
  | k, d, .set x v, hd, h => by
    intro p hp
    rw [show smR d (.set x v) = [(d, hdC (.set x v))] from rfl, List.mem_singleton] at hp
    subst hp
    exact ⟨by show d ≤ m; omega, by have := hdC_len (.set x v); show (hdC (.set x v)).length ≤ 60; omega⟩
  | k, d, .ifs t y z, hd, h => by
    unfold smW at h
    obtain ⟨_, j, hj, hy, hz⟩ := h
    have h1 := orP_in (d := d + 1) (by omega) (bkR_in (m := m) (k := j) (d + 1) y (by omega) hy)
    have h2 := orP_in (d := d + 1) (by omega) (bkR_in (m := m) (k := j) (d + 1) z (by omega) hz)
    intro p hp
    rw [show smR d (.ifs t y z) = (d, hdC (.ifs t y z)) :: (orP (d + 1) (bkR (d + 1) y) ++ (d, cElse) :: orP (d + 1) (bkR (d + 1) z)) from rfl] at hp
    rcases List.mem_cons.mp hp with rfl | hp
    · exact ⟨by show d ≤ m; omega, by have := hdC_len (.ifs t y z); show (hdC (.ifs t y z)).length ≤ 60; omega⟩
    · rcases List.mem_append.mp hp with hp | hp
      · exact h1 p hp
      · rcases List.mem_cons.mp hp with rfl | hp
        · exact ⟨by show d ≤ m; omega, by show cElse.length ≤ 60; decide⟩
        · exact h2 p hp
theorem bkR_in {m : Nat} : ∀ {k : Nat} (d : Nat) (b : Bk), d + k ≤ m → bkW k b → RowIn m (bkR d b)
  | k, d, .nil, _, _ => fun p hp => absurd hp (by rw [show bkR d .nil = [] from rfl]; simp)
  | k, d, .cons s b, hd, h => by
    unfold bkW at h
    intro p hp
    rw [bkR_cons] at hp
    rcases List.mem_append.mp hp with hp | hp
    · exact smR_in d s hd h.1 p hp
    · exact bkR_in d b hd h.2 p hp
end
theorem whole_ok {k : Nat} (hk : k ≤ 20) {b : Bk} (h : bkW k b) (hl : (bkR 1 b).length ≤ 2900) : LnsOk (wholeR b) := by
  refine ⟨?_, ?_⟩
  · have := orP_or 1 (bkR 1 b)
    show (orP 1 (bkR 1 b)).length + 1 ≤ 3000
    omega
  · intro p hp
    rcases List.mem_cons.mp hp with rfl | hp
    · exact ⟨by show 0 ≤ 50; omega, by show cFor.length ≤ 60; decide⟩
    · exact orP_in (by omega) (bkR_in (m := 50) 1 b (by omega) h) p hp
theorem Good.W {b : Bk} (h : Good b) : bkW 2 b := bkOk_W b h.ok
theorem Good.lns {b : Bk} (h : Good b) : LnsOk (wholeR b) := whole_ok (k := 2) (by omega) h.W (by
  have := bkR_few 1 [] 0 b
  have := h.few
  omega)
/-- the text of a loop, read: the loop -/
theorem read_good (n : Nat) (hn : n ≤ 150) {b : Bk} (hb : Good b) (g : G) : Ok (call P (n + 10) "" "read" [.str (T (textC (wholeR b)))] g) fun v g' => ∃ a, v = .ref a ∧ Gr g g' ∧ LoopT g' a b := by
  have hr := rdAll_back (n + 2) hb.W
  have hr : rdAll (n + 5) (textC (wholeR b)) = .ok b [] := hr
  have tl := text_len hb.lns
  rcases read_ok (n + 5) (by omega) g (t := textC (wholeR b)) (by omega) (by rw [hr]; intro h; cases h) with ⟨b', g', gr, h1, h2⟩ | ⟨q, g', gr, h1, _, _⟩
  · rw [hr] at h1
    injection h1 with h1 _
    subst h1
    show Ok (call P (n + 5 + 5) "" "read" [.str (T (textC (wholeR b)))] g) _
    rw [h2]
    have mk := mk_good n (call P (n + 5 + 4)) none hb g'
    exact mk.mono fun v g2 ⟨e1, e2, e3⟩ => ⟨_, e1, gr.trans e2, e3⟩
  · rw [hr] at h1
    cases h1
theorem good_nil : Good .nil := ⟨by unfold bkOk; trivial, by show 0 ≤ 8; omega⟩
theorem Good.okD {b : Bk} (h : Good b) : (D.tup (bkD b)).ok = true := h.blk.ok
theorem part_len : ∀ {k : Nat} {p : D}, Part k p → lenP p
  | 0, p, h => by cases h
  | k + 1, p, h => by
    cases h with
    | «at» _ x hx => exact ⟨by simp, trivial, by cases x with
      | tup xs => unfold D.dep at hx; omega
      | _ => trivial, trivial⟩
    | op _ hd hh ps hl hp => exact ⟨by simp; omega, trivial, lenPs_of fun x hx => part_len (hp x hx)⟩
theorem st_lenP : ∀ {k : Nat} {s : D}, St k s → lenP s := by
  intro k s h
  induction h with
  | brk k => exact ⟨by simp, trivial, trivial⟩
  | set k x v hv => exact ⟨by simp, trivial, trivial, part_len hv, trivial⟩
  | if_ k t ht a b la lb ha hb iha ihb => exact ⟨by simp, trivial, part_len ht, ⟨by omega, lenPs_of iha⟩, ⟨by omega, lenPs_of ihb⟩, trivial⟩
theorem blk_eql {b : List D} (h : Blk b) (n : Nat) : Eql (n + 14) (.tup b) := by
  refine eql_dep (n + 1) 12 (.tup b) ?_ (by omega) ⟨by have := h.len; omega, lenPs_of fun x hx => st_lenP (h.st x hx)⟩
  have := deps_le fun x hx => stD_dep (h.st x hx)
  unfold D.dep
  omega
end UkW
end
section
set_option Elab.async false
set_option linter.all false
set_option maxRecDepth 100000
set_option autoImplicit false
set_option maxHeartbeats 1000000
namespace UkW
open Uk
open Mac (Wo Th Ot Nm Bs Pv Vl Wd Ts Sm Bk)
/-! ## The program's own writing -/
theorem fn_vtext : P.fn "" "value_text" = some d_value_text := by rfl
theorem fn_ttext : P.fn "" "test_text" = some d_test_text := by rfl
theorem fn_first : P.fn "" "first_line" = some d_first_line := by rfl
theorem fn_blines : P.fn "" "block_lines" = some d_block_lines := by rfl
theorem fn_write : P.fn "" "write" = some d_write := by rfl
theorem pvtext_ok (n : Nat) (g : G) {p : Pv} (h : pvDg p) : call P (n + 1) "" "value_text" [pvD p] g = .ok (.str (T (pvC p))) g := by
  rw [call_run fn_vtext rfl]
  cases p with
  | bs x => cases x with
    | item => simp [d_value_text, exs, exe, ev, evs, pvD, bsD, eq_data]; try rfl
    | nm n => cases n <;> simp [d_value_text, exs, exe, ev, evs, pvD, bsD, nmS, eq_data] <;> rfl
  | none => simp [d_value_text, exs, exe, ev, evs, pvD, eq_data]; try rfl
  | «at» k => simp [d_value_text, exs, exe, ev, evs, pvD, eq_data, str_int h]; try rfl
theorem vltext_ok (n : Nat) (g : G) {v : Vl} (h : vlDg v) : call P (n + 2) "" "value_text" [vlD v] g = .ok (.str (T (vlC v))) g := by
  cases v with
  | pv p => exact pvtext_ok (n + 1) g h
  | copy x =>
    rw [call_run fn_vtext rfl]
    have e1 : call P (n + 1) "" "value_text" [bsD x] g = .ok (.str (T (bsC x))) g := pvtext_ok n g (p := .bs x) trivial
    have hb := bsC_len x
    show R.bind (exs ⟨P, call P (n + 1), call P n, none⟩ d_value_text.body [some (.tup [.str "copy", bsD x])] g) _ = _
    have e2 : ev ⟨P, call P (n + 1), call P n, none⟩ (.fst (.c (.cst (.str "copy(")) (.c (.fmt (.call "value_text" (.c (.ix (.loc 0) (.cst (.int 1))) .n))) (.c (.cst (.str ")")) .n)))) [some (.tup [.str "copy", bsD x])] g = .ok (.str (T (vlC (.copy x)))) g := by
      rw [ev_fst, evf_c (g' := g) (b := cCopy) (by unfold ev; rfl) (by decide), evf_c (g' := g) (b := bsC x) (ev_fmt (by simp [ev, evs, e1]) (by omega)) (by simp [cCopy]; omega), evf_c (g' := g) (b := [')']) (by unfold ev; rfl) (by simp [cCopy]; omega), evf_n]
      try rfl
    simp only [d_value_text]
    rw [exs_ife_f (g' := g) (by simp [ev, eq_data]), exs_ife_t (g' := g) (by simp [ev, eq_data])]
    simp [exs, exe, e2]
theorem t0text_ok (n : Nat) (g : G) {w : Wd} {x y : Pv} (hx : pvDg x) (hy : pvDg y) : call P (n + 2) "" "test_text" [t0D w x y] g = .ok (.str (T (t0C w x y))) g := by
  rw [call_run fn_ttext rfl]
  have e1 := pvtext_ok n g hx
  have e2 := pvtext_ok n g hy
  have := pvC_len x
  have := pvC_len y
  have := wdC_len w
  have := endC_len w
  have hw := k_wd w
  have a1 := addT (a := pvC x) (b := wdC w) (by omega) g
  have a2 := addT (a := pvC x ++ wdC w) (b := pvC y) (by rw [List.length_append]; omega) g
  have a3 := addT (a := pvC x ++ wdC w ++ pvC y) (b := endC w) (by rw [List.length_append, List.length_append]; omega) g
  show R.bind (exs ⟨P, call P (n + 1), call P n, none⟩ d_test_text.body [some (.tup [.str (wdS w), pvD x, pvD y]), none] g) _ = _
  have hn : ¬ (wdS w = "not") := by cases w <;> decide
  have h2 : exs ⟨P, call P (n + 1), call P n, none⟩ d_test_text.body [some (.tup [.str (wdS w), pvD x, pvD y]), none] g = .ok ([some (.tup [.str (wdS w), pvD x, pvD y]), some (.str (T (endC w)))], .rt (.str (T (pvC x ++ wdC w ++ pvC y ++ endC w)))) g := by
    have ei : ∀ δ : Env, δ[0]? = some (some (.tup [.str (wdS w), pvD x, pvD y])) → ev ⟨P, call P (n + 1), call P n, none⟩ (.ite (.cmp .eq (.ix (.loc 0) (.cst (.int 0))) (.cst (.str "in"))) (.cst (.str "]")) (.cst (.str ""))) δ g = .ok (.str (T (endC w))) g := by
      intro δ hδ
      cases w <;> simp [ev, hδ, wdS, eq_data, endC, k_brk, k_nil]
    simp only [d_test_text]
    rw [exs_ife_f (g' := g) (by simp [ev, eq_data, hn])]
    simp [-List.append_assoc, exs, exe, ei]
    simp [-List.append_assoc, ev, evs, e1, e2, dixM, dct_words, hw, a1, a2, a3]
  rw [h2]
  try rfl
theorem tstext_ok (n : Nat) (g : G) {t : Ts} (hx : pvDg t.x) (hy : pvDg t.y) : call P (n + 3) "" "test_text" [tsD t] g = .ok (.str (T (tsC t))) g := by
  obtain ⟨neg, w, x, y⟩ := t
  cases neg with
  | false =>
    have e : tsD ⟨false, w, x, y⟩ = t0D w x y := rfl
    have e2 : tsC ⟨false, w, x, y⟩ = t0C w x y := rfl
    rw [e, e2]
    exact t0text_ok (n + 1) g hx hy
  | true =>
    rw [call_run fn_ttext rfl]
    have e1 := t0text_ok n g (w := w) hx hy
    have := t0C_len w x y
    show R.bind (exs ⟨P, call P (n + 2), call P (n + 1), none⟩ d_test_text.body [some (.tup [.str "not", t0D w x y]), none] g) _ = _
    have e2 : ev ⟨P, call P (n + 2), call P (n + 1), none⟩ (.fst (.c (.cst (.str "not ")) (.c (.fmt (.call "test_text" (.c (.ix (.loc 0) (.cst (.int 1))) .n))) .n))) [some (.tup [.str "not", t0D w x y]), none] g = .ok (.str (T (tsC ⟨true, w, x, y⟩))) g := by
      rw [ev_fst, evf_c (g' := g) (b := cNot) (by unfold ev; rfl) (by decide), evf_c (g' := g) (b := t0C w x y) (ev_fmt (by simp [ev, evs]; exact e1) (by omega)) (by simp [cNot]; omega), evf_n]
      try rfl
    simp only [d_test_text]
    rw [exs_ife_t (g' := g) (by simp [ev, eq_data])]
    simp [exs, exe, e2]
theorem first_ok (n : Nat) (g : G) {s : Sm} (h : hdDg s) : call P (n + 4) "" "first_line" [smD s] g = .ok (.str (T (hdC s))) g := by
  rw [call_run fn_first rfl]
  cases s with
  | brk =>
    simp [d_first_line, exs, exe, ev, evs, smD, eq_data]
    try rfl
  | set x v =>
    have e1 := vltext_ok (n + 1) g (v := v) h
    have := vlC_len v
    have := nmC_len x
    show R.bind (exs ⟨P, call P (n + 3), call P (n + 2), none⟩ d_first_line.body [some (.tup [.str "set", .str (nmS x), vlD v])] g) _ = _
    have e2 : ev ⟨P, call P (n + 3), call P (n + 2), none⟩ (.fst (.c (.fmt (.ix (.loc 0) (.cst (.int 1)))) (.c (.cst (.str " = ")) (.c (.fmt (.call "value_text" (.c (.ix (.loc 0) (.cst (.int 2))) .n))) .n)))) [some (.tup [.str "set", .str (nmS x), vlD v])] g = .ok (.str (T (hdC (.set x v)))) g := by
      rw [ev_fst, evf_c (g' := g) (b := nmC x) (ev_fmt (by simp [ev, nmS_T]) (by omega)) (by simp; omega), evf_c (g' := g) (b := cSet) (by unfold ev; rfl) (by simp [cSet]; omega), evf_c (g' := g) (b := vlC v) (ev_fmt (by simp [ev, evs]; exact e1) (by omega)) (by simp [cSet]; omega), evf_n]
      try rfl
    simp only [d_first_line]
    rw [exs_ife_f (g' := g) (by simp [ev, eq_data]), exs_ife_t (g' := g) (by simp [ev, eq_data])]
    simp [exs, exe, e2]
  | ifs t y z =>
    have e1 := tstext_ok n g h.1 h.2
    have := tsC_len t
    show R.bind (exs ⟨P, call P (n + 3), call P (n + 2), none⟩ d_first_line.body [some (.tup [.str "if", tsD t, .tup (bkD y), .tup (bkD z)])] g) _ = _
    have e2 : ev ⟨P, call P (n + 3), call P (n + 2), none⟩ (.fst (.c (.cst (.str "if ")) (.c (.fmt (.call "test_text" (.c (.ix (.loc 0) (.cst (.int 1))) .n))) (.c (.cst (.str ":")) .n)))) [some (.tup [.str "if", tsD t, .tup (bkD y), .tup (bkD z)])] g = .ok (.str (T (hdC (.ifs t y z)))) g := by
      rw [ev_fst, evf_c (g' := g) (b := cIf) (by unfold ev; rfl) (by decide), evf_c (g' := g) (b := tsC t) (ev_fmt (by simp [ev, evs]; exact e1) (by omega)) (by simp [cIf]; omega), evf_c (g' := g) (b := [':']) (by unfold ev; rfl) (by simp [cIf]; omega), evf_n]
      try rfl
    simp only [d_first_line]
    rw [exs_ife_f (g' := g) (by simp [ev, eq_data]), exs_ife_f (g' := g) (by simp [ev, eq_data])]
    simp [exs, exe, e2]
end UkW
end
section
set_option Elab.async false
set_option linter.all false
set_option maxRecDepth 100000
set_option autoImplicit false
set_option maxHeartbeats 1000000
namespace UkW
open Uk
open Mac (Wo Th Ot Nm Bs Pv Vl Wd Ts Sm Bk)
def blBody : Ss := .c (.ex (.met (.loc 3) "append" (.c (.bin .add (.loc 2) (.call "first_line" (.c (.loc 4) .n))) .n))) (.c (.ife (.cmp .eq (.ix (.loc 4) (.cst (.int 0))) (.cst (.str "if"))) (.c (.ex (.met (.loc 3) "extend" (.c (.call "block_lines" (.c (.ix (.loc 4) (.cst (.int 2))) (.c (.bin .add (.loc 1) (.cst (.int 1))) .n))) .n))) (.c (.ex (.met (.loc 3) "append" (.c (.fst (.c (.fmt (.loc 2)) (.c (.cst (.str "else:")) .n))) .n))) (.c (.ex (.met (.loc 3) "extend" (.c (.call "block_lines" (.c (.ix (.loc 4) (.cst (.int 3))) (.c (.bin .add (.loc 1) (.cst (.int 1))) .n))) .n))) .n))) .n) .n)
theorem bl_body : d_block_lines.body = .c (.asg 2 (.bin .mul (.cst (.str " ")) (.bin .mul (.glo "WIDE") (.loc 1)))) (.c (.asg 3 (.lst .n)) (.c (.for_ (.one 4) (.seq (.loc 0)) blBody) (.c (.ret (.ite (.cmp .gt (.bi .len (.c (.loc 0) .n)) (.cst (.int 0))) (.loc 3) (.lst (.c (.fst (.c (.fmt (.loc 2)) (.c (.cst (.str "pass")) .n))) .n)))) .n))) := by rfl
theorem bl_loop {N d k : Nat} (hd : d ≤ 150) (IH : ∀ j, k = j + 1 → ∀ (b : Bk) (g : G), bkW j b → (bkR (d + 1) b).length ≤ 100000 → Ok (call P (N + 4) "" "block_lines" [.tup (bkD b), .int ((d : Int) + 1)] g) fun v g' => NewL g ((orP (d + 1) (bkR (d + 1) b)).map lnD) v g') (c1 : String → String → List D → G → R D) (bs : List D) {g0 : G} {f : Nat} (hf0 : g0.length ≤ f) :
    ∀ (b : Bk) (acc : List Ln) (g : G) (x4 : Option D), bkW k b → acc.length + (bkR d b).length ≤ 100000 → Gr g0 g → g[f]? = some (.lst (acc.map lnD)) →
    Ok (walkT (.one 4) (exs ⟨P, call P (N + 4), c1, none⟩ blBody) (bkD b) [some (.tup bs), some (.int (d : Int)), some (.str (T (blC d))), some (.ref f), x4] g) fun z g' => z.2 = .nx ∧ (∃ y4, z.1 = [some (.tup bs), some (.int (d : Int)), some (.str (T (blC d))), some (.ref f), y4]) ∧ Gr g0 g' ∧ g'[f]? = some (.lst ((acc ++ bkR d b).map lnD))
  | .nil, acc, g, x4, hw, hl, hg, hf => by
    refine ⟨rfl, ⟨x4, rfl⟩, hg, ?_⟩
    show g[f]? = some (.lst ((acc ++ []).map lnD))
    rw [List.append_nil]
    exact hf
  | .cons s b, acc, g, x4, hw, hl, hg, hf => by
    unfold bkW at hw
    obtain ⟨hs, hb⟩ := hw
    have hla : ((acc.map lnD).length : Nat) = acc.length := List.length_map ..
    have e1 := first_ok N g (smW_hd hs)
    have hL := hdC_len s
    have bL := bl_len d
    have a1 := addT (a := blC d) (b := hdC s) (by omega) g
    have r : bkR d (.cons s b) = smR d s ++ bkR d b := rfl
    rw [r, List.length_append] at hl
    have ap := app_ref hf (by rw [hla, line_is]; omega) (.str (T (blC d ++ hdC s)))
    have hg1 : Gr g0 (g.set f (.lst (acc.map lnD ++ [.str (T (blC d ++ hdC s))]))) := hg.set hf0 _
    have hf1 := get_set (o' := .lst (acc.map lnD ++ [.str (T (blC d ++ hdC s))])) hf
    generalize g.set f (.lst (acc.map lnD ++ [.str (T (blC d ++ hdC s))])) = g1 at ap hg1 hf1
    have hf1 : g1[f]? = some (.lst ((acc ++ [(d, hdC s)]).map lnD)) := by rw [hf1, List.map_append]; try rfl
    have go : ∀ (g2 : G) , Gr g0 g2 → g2[f]? = some (.lst ((acc ++ smR d s).map lnD)) → exs ⟨P, call P (N + 4), c1, none⟩ blBody [some (.tup bs), some (.int (d : Int)), some (.str (T (blC d))), some (.ref f), some (smD s)] g = .ok ([some (.tup bs), some (.int (d : Int)), some (.str (T (blC d))), some (.ref f), some (smD s)], .nx) g2 → Ok (walkT (.one 4) (exs ⟨P, call P (N + 4), c1, none⟩ blBody) (bkD (.cons s b)) [some (.tup bs), some (.int (d : Int)), some (.str (T (blC d))), some (.ref f), x4] g) fun z g' => z.2 = .nx ∧ (∃ y4, z.1 = [some (.tup bs), some (.int (d : Int)), some (.str (T (blC d))), some (.ref f), y4]) ∧ Gr g0 g' ∧ g'[f]? = some (.lst ((acc ++ bkR d (.cons s b)).map lnD)) := by
      intro g2 hg2 hf2 run
      show Ok (walkT _ _ (smD s :: bkD b) _ _) _
      rw [walkT_cons]
      show Ok (R.bind (exs ⟨P, call P (N + 4), c1, none⟩ blBody [some (.tup bs), some (.int (d : Int)), some (.str (T (blC d))), some (.ref f), some (smD s)] g) _) _
      rw [run, bind_ok]
      have := bl_loop hd IH c1 bs hf0 b (acc ++ smR d s) g2 (some (smD s)) hb (by rw [List.length_append]; omega) hg2 hf2
      rw [r, ← List.append_assoc]
      exact this
    cases s with
    | brk =>
      refine go g1 hg1 hf1 ?_
      have e1 : call P (N + 4) "" "first_line" [.tup [.str "break"]] g = _ := e1
      simp [blBody, exs, exe, ev, evs, kind_lst hf, e1, a1, ap, smD, eq_data]
    | set x v =>
      refine go g1 hg1 hf1 ?_
      have e1 : call P (N + 4) "" "first_line" [.tup [.str "set", .str (nmS x), vlD v]] g = _ := e1
      simp [blBody, exs, exe, ev, evs, kind_lst hf, e1, a1, ap, smD, eq_data]
    | ifs t y z =>
      have hs2 := hs
      unfold smW at hs2
      obtain ⟨_, j, hj, hy, hz⟩ := hs2
      have e1 : call P (N + 4) "" "first_line" [.tup [.str "if", tsD t, .tup (bkD y), .tup (bkD z)]] g = _ := e1
      have rr : smR d (.ifs t y z) = (d, hdC (.ifs t y z)) :: (orP (d + 1) (bkR (d + 1) y) ++ (d, cElse) :: orP (d + 1) (bkR (d + 1) z)) := rfl
      have orl : ∀ (d : Nat) (l : List Ln), l.length ≤ (orP d l).length := fun d l => by
        cases l with
        | nil => exact Nat.zero_le _
        | cons x l => exact Nat.le_refl _
      have oy := orl (d + 1) (bkR (d + 1) y)
      have oz := orl (d + 1) (bkR (d + 1) z)
      rw [rr] at hl
      simp only [List.length_cons, List.length_append] at hl
      obtain ⟨v, g2, e2, i2, rfl, gr2, hi2, hx2⟩ := (IH j hj y g1 hy (by omega)).to
      have hf2 := gr2.get hf1
      have m1 := ext_ref hf2 hx2 (by simp only [List.length_map, List.length_append, List.length_cons, List.length_nil, line_is]; omega)
      rw [← List.map_append] at m1
      have hg3 : Gr g0 (g2.set f (.lst (((acc ++ [(d, hdC (.ifs t y z))]) ++ orP (d + 1) (bkR (d + 1) y)).map lnD))) := (hg1.trans gr2).set hf0 _
      have hf3 := get_set (o' := .lst (((acc ++ [(d, hdC (.ifs t y z))]) ++ orP (d + 1) (bkR (d + 1) y)).map lnD)) hf2
      generalize g2.set f (.lst (((acc ++ [(d, hdC (.ifs t y z))]) ++ orP (d + 1) (bkR (d + 1) y)).map lnD)) = g3 at m1 hg3 hf3
      have m2 := app_ref hf3 (by simp only [List.length_map, List.length_append, List.length_cons, List.length_nil, line_is]; omega) (.str (T (blC d ++ cElse)))
      rw [show List.map lnD (acc ++ [(d, hdC (.ifs t y z))] ++ orP (d + 1) (bkR (d + 1) y)) ++ [.str (T (blC d ++ cElse))] = List.map lnD (acc ++ [(d, hdC (.ifs t y z))] ++ orP (d + 1) (bkR (d + 1) y) ++ [(d, cElse)]) from by rw [List.map_append (l₂ := [(d, cElse)])]; rfl] at m2
      have hg4 : Gr g0 (g3.set f (.lst (List.map lnD (acc ++ [(d, hdC (.ifs t y z))] ++ orP (d + 1) (bkR (d + 1) y) ++ [(d, cElse)])))) := hg3.set hf0 _
      have hf4 := get_set (o' := .lst (List.map lnD (acc ++ [(d, hdC (.ifs t y z))] ++ orP (d + 1) (bkR (d + 1) y) ++ [(d, cElse)]))) hf3
      generalize g3.set f (.lst (List.map lnD (acc ++ [(d, hdC (.ifs t y z))] ++ orP (d + 1) (bkR (d + 1) y) ++ [(d, cElse)]))) = g4 at m2 hg4 hf4
      obtain ⟨v, g5, e5, i5, rfl, gr5, hi5, hx5⟩ := (IH j hj z g4 hz (by omega)).to
      have hf5 := gr5.get hf4
      have m3 := ext_ref hf5 hx5 (by simp only [List.length_map, List.length_append, List.length_cons, List.length_nil, line_is]; omega)
      rw [← List.map_append] at m3
      have k1 := kind_lst hf (P := P)
      have k2 := kind_lst hf1 (P := P)
      have k3 := kind_lst hf3 (P := P)
      have k4 := kind_lst hf4 (P := P)
      refine go _ ((hg4.trans gr5).set hf0 _) (get_set (o' := .lst (List.map lnD (acc ++ [(d, hdC (.ifs t y z))] ++ orP (d + 1) (bkR (d + 1) y) ++ [(d, cElse)] ++ orP (d + 1) (bkR (d + 1) z)))) hf5 |>.trans ?_) ?_
      · rw [rr]
        simp
      · have fe : ∀ g, evf ⟨P, call P (N + 4), c1, none⟩ (.c (.fmt (.loc 2)) (.c (.cst (.str "else:")) .n)) "" [some (.tup bs), some (.int (d : Int)), some (.str (T (blC d))), some (.ref f), some (.tup [.str "if", tsD t, .tup (bkD y), .tup (bkD z)])] g = .ok (.str (T (blC d ++ cElse))) g := fun g => evf_2 rfl rfl (by omega) (by decide)
        simp [-List.append_assoc, -List.map_append, blBody, exs, exe, smD, fe, ev, evs, k1, k2, k3, k4, e1, a1, ap, eq_data, e2, m1, m2, e5, m3]
theorem blines_step {N d k : Nat} (hd : d ≤ 150) (IH : ∀ j, k = j + 1 → ∀ (b : Bk) (g : G), bkW j b → (bkR (d + 1) b).length ≤ 100000 → Ok (call P (N + 4) "" "block_lines" [.tup (bkD b), .int ((d : Int) + 1)] g) fun v g' => NewL g ((orP (d + 1) (bkR (d + 1) b)).map lnD) v g') (b : Bk) (g : G) (hw : bkW k b) (hl : (bkR d b).length ≤ 100000) : Ok (call P (N + 5) "" "block_lines" [.tup (bkD b), .int (d : Int)] g) fun v g' => NewL g ((orP d (bkR d b)).map lnD) v g' := by
  refine body_run (n := N + 4) fn_blines rfl ?_
  rw [bl_body]
  have hm : binop .mul (.int 4) (.int (d : Int)) g = .ok (.int (4 * (d : Int))) g := mul_small _ _ _ (by omega)
  have hb := bl_mul d (by omega) g
  have hf : (g ++ [.lst []] : G)[g.length]? = some (.lst []) := get_new _ _
  have gr : Gr g (g ++ [.lst []]) := Gr.app _ _
  have bL := bl_len d
  generalize hG : (g ++ [.lst []] : G) = g1 at hf gr
  obtain ⟨z, g2, e2, hz, ⟨y4, hz2⟩, gr2, hf2⟩ := (bl_loop hd IH (call P (N + 3)) (bkD b) (Nat.le_refl g.length) b [] g1 none hw (by simpa using hl) gr hf).to
  obtain ⟨δ2, fl⟩ := z
  have hz : fl = .nx := hz
  have hz2 : δ2 = _ := hz2
  subst hz hz2
  have e2 : forL (.tup (bkD b)) (bkD b).length (.one 4) (exs ⟨P, call P (N + 4), call P (N + 3), none⟩ blBody) (bkD b).length 0 [some (.tup (bkD b)), some (.int (d : Int)), some (.str (T (blC d))), some (.ref g.length), none] g1 = _ := (forL_tup _ _ _ _ _ _).trans e2
  show Ok (exs ⟨P, call P (N + 4), call P (N + 3), none⟩ (.c (.asg 2 (.bin .mul (.cst (.str " ")) (.bin .mul (.glo "WIDE") (.loc 1)))) (.c (.asg 3 (.lst .n)) (.c (.for_ (.one 4) (.seq (.loc 0)) blBody) (.c (.ret (.ite (.cmp .gt (.bi .len (.c (.loc 0) .n)) (.cst (.int 0))) (.loc 3) (.lst (.c (.fst (.c (.fmt (.loc 2)) (.c (.cst (.str "pass")) .n))) .n)))) .n)))) [some (.tup (bkD b)), some (.int (d : Int)), none, none, none] g) _
  have w : walkOf (.tup (bkD b)) g1 = some ((bkD b).length, .tup (bkD b)) := rfl
  have run : exs ⟨P, call P (N + 4), call P (N + 3), none⟩ (.c (.asg 2 (.bin .mul (.cst (.str " ")) (.bin .mul (.glo "WIDE") (.loc 1)))) (.c (.asg 3 (.lst .n)) (.c (.for_ (.one 4) (.seq (.loc 0)) blBody) (.c (.ret (.ite (.cmp .gt (.bi .len (.c (.loc 0) .n)) (.cst (.int 0))) (.loc 3) (.lst (.c (.fst (.c (.fmt (.loc 2)) (.c (.cst (.str "pass")) .n))) .n)))) .n)))) [some (.tup (bkD b)), some (.int (d : Int)), none, none, none] g = exs ⟨P, call P (N + 4), call P (N + 3), none⟩ (.c (.ret (.ite (.cmp .gt (.bi .len (.c (.loc 0) .n)) (.cst (.int 0))) (.loc 3) (.lst (.c (.fst (.c (.fmt (.loc 2)) (.c (.cst (.str "pass")) .n))) .n)))) .n) [some (.tup (bkD b)), some (.int (d : Int)), some (.str (T (blC d))), some (.ref g.length), y4] g2 := by
    simp only [exs, exe, ev, evs, evI, con_wide, orElse_some, bind_ok, List.getElem?_cons_zero, List.getElem?_cons_succ, hm, hb, newL_n, List.set_cons_succ, List.set_cons_zero, hG, w, e2]
  rw [run]
  have fe : evf ⟨P, call P (N + 4), call P (N + 3), none⟩ (.c (.fmt (.loc 2)) (.c (.cst (.str "pass")) .n)) "" [some (.tup (bkD b)), some (.int (d : Int)), some (.str (T (blC d))), some (.ref g.length), y4] g2 = .ok (.str (T (blC d ++ cPass))) g2 := evf_2 rfl rfl (by omega) (by decide)
  cases b with
  | nil =>
    have fe : evf ⟨P, call P (N + 4), call P (N + 3), none⟩ (.c (.fmt (.loc 2)) (.c (.cst (.str "pass")) .n)) "" [some (.tup []), some (.int (d : Int)), some (.str (T (blC d))), some (.ref g.length), y4] g2 = .ok (.str (T (blC d ++ cPass))) g2 := fe
    simp [exs, exe, ev, evs, bkD, fe]
    exact ⟨_, rfl, gr2.trans (.app _ _), gr2.len, get_new _ _⟩
  | cons s b =>
    have h0 : (0 : Int) < ((bkD (.cons s b)).length : Int) := by rw [bkD_len]; simp only [bkLen]; omega
    have h00 : 0 < (bkD (.cons s b)).length := by omega
    have e : orP d (bkR d (.cons s b)) = bkR d (.cons s b) := by
      have : bkR d (.cons s b) = smR d s ++ bkR d b := rfl
      rw [this]
      cases s <;> rfl
    rw [e]
    simp [exs, exe, ev, evs, h0, h00]
    exact ⟨_, rfl, gr2, Nat.le_refl _, hf2⟩
theorem blines_ok (n : Nat) : ∀ (k d : Nat) (hd : d + k ≤ 150) (b : Bk) (g : G), bkW k b → (bkR d b).length ≤ 100000 → Ok (call P (n + k + 5) "" "block_lines" [.tup (bkD b), .int (d : Int)] g) fun v g' => NewL g ((orP d (bkR d b)).map lnD) v g'
  | 0, d, hd, b, g, hw, hl => blines_step (N := n) (k := 0) (by omega) (fun j hj => absurd hj (by omega)) b g hw hl
  | k + 1, d, hd, b, g, hw, hl => blines_step (N := n + (k + 1)) (k := k + 1) (by omega) (fun j hj b g hw hl => by
      obtain rfl : k = j := by omega
      have := blines_ok n k (d + 1) (by omega) b g hw hl
      exact this) b g hw hl
end UkW
end
section
set_option Elab.async false
set_option linter.all false
set_option maxRecDepth 100000
set_option autoImplicit false
set_option maxHeartbeats 1000000
namespace UkW
open Uk
open Mac (Wo Th Ot Nm Bs Pv Vl Wd Ts Sm Bk)
theorem whole_blines (b : Bk) : (wholeR b).map lnD = .str (T cFor) :: (orP 1 (bkR 1 b)).map lnD := rfl
def wrF (x : D) : Option D := match x with
  | .str s => some (.str (s ++ T ['\n']))
  | _ => none
theorem wrF_row (p : Ln) : wrF (lnD p) = some (.str (T (linC p ++ ['\n']))) := by
  show some (D.str (T (linC p) ++ T ['\n'])) = _
  rw [T_app]
theorem fm_wr : ∀ l : List Ln, (l.map lnD).filterMap wrF = strL (l.map fun p => linC p ++ ['\n'])
  | [] => rfl
  | p :: l => by
    rw [List.map_cons, List.filterMap_cons, wrF_row]
    show _ :: _ = _ :: _
    rw [fm_wr l]
    try rfl
theorem write_ok (n k : Nat) (hk : k ≤ 100) {g : G} {a : Nat} {b : Bk} (hA : LoopAt g a (bkD b)) (hw : bkW k b) (h : LnsOk (wholeR b)) : Ok (call P (n + k + 6) "" "write" [.ref a] g) fun v g' => Gr g g' ∧ v = .str (T (textC (wholeR b))) := by
  refine body_run (n := n + k + 5) fn_write rfl ?_
  obtain ⟨j, ha, _⟩ := hA
  have hat := att_ref (c := ⟨P, call P (n + k + 5), call P (n + k + 4), none⟩) (f := "own_block") ha (by rfl) (by rfl) (by rfl) (v := .tup (bkD b)) (by rfl)
  have con : P.con "FIRST_LINE" = some (.str (T cFor)) := con_first
  have hf : (g ++ [.lst [.str (T cFor)]] : G)[g.length]? = some (.lst [.str (T cFor)]) := get_new _ _
  have gr : Gr g (g ++ [.lst [.str (T cFor)]]) := Gr.app _ _
  have n1 : newL [.str (T cFor)] g = .ok (.ref g.length) (g ++ [.lst [.str (T cFor)]]) := newL_1 _ g
  have hat1 : attr ⟨P, call P (n + k + 5), call P (n + k + 4), none⟩ (.ref a) "own_block" (g ++ [.lst [.str (T cFor)]]) = .ok (.tup (bkD b)) (g ++ [.lst [.str (T cFor)]]) := att_ref (c := ⟨P, call P (n + k + 5), call P (n + k + 4), none⟩) (f := "own_block") (gr.get ha) (by rfl) (by rfl) (by rfl) (v := .tup (bkD b)) (by rfl)
  generalize (g ++ [.lst [.str (T cFor)]] : G) = g1 at hf gr n1 hat1
  have hlen := h.len
  have hl : (bkR 1 b).length ≤ 3000 := by
    have := orP_len 1 (bkR 1 b)
    have e : (wholeR b).length = (orP 1 (bkR 1 b)).length + 1 := rfl
    omega
  obtain ⟨v, g2, e2, i2, rfl, gr2, hi2, hx2⟩ := (blines_ok n k 1 (by omega) b g1 hw (by omega)).to
  have e2 : call P (n + k + 5) "" "block_lines" [.tup (bkD b), .int 1] g1 = .ok (.ref i2) g2 := e2
  have hf2 := gr2.get hf
  have e : (wholeR b).length = (orP 1 (bkR 1 b)).length + 1 := rfl
  have m1 := add_lst hf2 hx2 (by simp only [List.length_map, List.length_cons, List.length_nil]; omega)
  have hx3 : (g2 ++ [.lst ([.str (T cFor)] ++ (orP 1 (bkR 1 b)).map lnD)] : G)[g2.length]? = some (.lst ((wholeR b).map lnD)) := get_new _ _
  have gr3 : Gr g (g2 ++ [.lst ([.str (T cFor)] ++ (orP 1 (bkR 1 b)).map lnD)]) := (gr.trans gr2).trans (.app _ _)
  generalize (g2 ++ [.lst ([.str (T cFor)] ++ (orP 1 (bkR 1 b)).map lnD)] : G) = g3 at m1 hx3 gr3
  have w := walk_ref hx3
  have ks : ∀ g, kindOf P (.str "") "join" g = some .str := fun _ => rfl
  show Ok (exs ⟨P, call P (n + k + 5), call P (n + k + 4), none⟩ d_write.body [some (.ref a), none] g) _
  simp [-newL_1, -List.append_assoc, d_write, exs, exe, ev, evs, evI, ks, con, n1, hat1, e2, m1, w]
  refine Ok.mono (comp_fm2 g3 rfl rfl (xs := (wholeR b).map lnD) wrF (by simp) (items_ref hx3) (by rw [List.length_map, line_is]; omega) (fun x hx g4 hg4 => ?_)) (fun _ g4 q => ?_)
  · obtain ⟨p, hp, rfl⟩ := List.mem_map.mp hx
    have hr := h.row p hp
    have hll := lin_len hr
    rw [List.length_append] at hll
    rw [wrF_row]
    have fe : evf ⟨P, call P (n + k + 5), call P (n + k + 4), none⟩ (.c (.fmt (.loc 1)) (.c (.cst (.str "\n")) .n)) "" [some (.ref a), some (.str (T (linC p)))] g4 = .ok (.str (T (linC p ++ ['\n']))) g4 := evf_2 rfl rfl (by omega) (by decide)
    simp [-List.append_assoc, lnD, bindT, setAll, wipe, ev, fe]
    exact .refl _
  · obtain ⟨gr4, hx4⟩ := q
    rw [fm_wr] at hx4
    have jn := join_ok hx4 (by have := text_len h; unfold textC at this; omega)
    simp [jn]
    exact ⟨gr3.trans gr4, rfl⟩
end UkW
end
section
set_option Elab.async false
set_option linter.all false
set_option maxRecDepth 100000
set_option autoImplicit false
set_option maxHeartbeats 1000000
namespace UkW
open Uk
theorem fn_lwalk : P.fn "" "_law_walk" = some d__law_walk := by rfl
theorem lwalk_ok : ∀ (k : Nat) (head b : List D), b.length ≤ 13 → (∀ s, s ∈ b → St k s) → k ≤ 3 → head.length + 2 * k ≤ 50 → ∀ (n : Nat) (g : G),
    Ok (call P (n + k + 1) "" "_law_walk" [.tup b, .tup head] g) fun v g' => NewL g ((rows (k + 1) head b).map rowD) v g' := by
  intro k
  induction k using Nat.strongRecOn with
  | ind k ih =>
  intro head b hl hs hk hh n g
  refine body_run (n := n + k) fn_lwalk rfl ?_
  generalize hF : (fun (i : Nat) (s : D) => (((head ++ [.int i], s) : Row) :: rowsI (fun j x => rows k (head ++ [.int i] ++ [.int j]) (dl x)) 0 (blocksOf s))) = F
  have hrows : rows (k + 1) head b = rowsI F 0 b := by rw [← hF]; rfl
  have hlen := rows_len k head b hl hs
  have h30 : 30 ^ (k + 1) ≤ 30 ^ 4 := Nat.pow_le_pow_right (by omega) (by omega)
  have hbig : ∀ i, i < b.length → (rowsI F 0 (b.take (i + 1))).length ≤ 810000 := fun i hi => by
    have := rowsI_take_len (f := F) b (i + 1)
    rw [hrows] at hlen
    omega
  have hr : rng1 (.int b.length) = some (b.length, .rng 0 1) := rng1_ok _ (by omega)
  simp [d__law_walk, exs, exe, ev, evs, evI, hr]
  refine Ok.mono (for_inv (fun i δ g' => ∃ f x3, δ = [some (.tup b), some (.tup head), some (.ref f), x3] ∧ Gr g g' ∧ g.length ≤ f ∧ g'[f]? = some (.lst ((rowsI F 0 (b.take i)).map rowD))) (fun _ _ => False) ?step ?stop _ _ _ _ (by simp) ⟨_, _, rfl, .app _ _, Nat.le_refl _, by simp [rowsI]⟩) ?fin
  case stop => exact fun δ g' _ => item_rng_end g'
  case fin =>
    intro z g' hz
    obtain ⟨e, f⟩ := z
    cases f with
    | rt d => exact hz.elim
    | nx =>
      obtain ⟨f, x3, rfl, h3, hf, h4⟩ := hz
      simp
      refine ⟨_, rfl, h3, hf, ?_⟩
      rw [hrows]
      simpa using h4
  case step =>
    rintro i _ g1 hi ⟨f, x3, rfl, h3, hf, h4⟩
    refine ⟨_, _, item_rng hi g1, rfl, ?_⟩
    have hbl : b[i] ∈ b := List.getElem_mem hi
    have l1 : (head ++ [D.int (i : Int)]).length ≤ line := by simp; omega
    have l0 := rowsI_take_len (f := F) b i
    rw [← hrows] at l0
    have l2 : ((rowsI F 0 (b.take i)).map rowD).length < line := by simp; omega
    generalize hA : (rowsI F 0 (b.take i)).map rowD ++ [D.tup [.tup (head ++ [.int i]), b[i]]] = acc
    have hX1 := app_ref h4 l2 (D.tup [.tup (head ++ [.int i]), b[i]])
    rw [hA] at hX1
    have hgi := fun g => getIx_nat hi g
    have h4' := get_set (o' := .lst acc) h4
    have hFi : F i b[i] = (head ++ [.int i], b[i]) :: rowsI (fun j x => rows k (head ++ [.int i] ++ [.int j]) (dl x)) 0 (blocksOf b[i]) := by rw [← hF]
    have hz1 := hbig i hi
    rw [rowsI_take hi, hFi] at hz1
    have fin : rowsI F 0 (b.take (i + 1)) = rowsI F 0 (b.take i) ++ F i b[i] := rowsI_take hi
    have hsi := hs _ hbl
    have hT1 : newT (head ++ [D.int (i : Int)]) g1 = .ok (.tup (head ++ [D.int (i : Int)])) g1 := newT_ok l1 _
    generalize hb : b[i] = s at hsi hX1 hA hgi hFi hz1
    have plain : ∀ (hne : ∀ t x y, s ≠ .tup [.str "if", t, x, y]), blocksOf s = [] := fun hne => by
      unfold blocksOf
      split
      · exact absurd rfl (hne _ _ _)
      · rfl
    cases hsi with
    | brk =>
      refine Ok.mono (Q := fun z g' => z = ([some (.tup b), some (.tup head), some (.ref f), some (.int i)], .nx) ∧ g' = g1.set f (.lst acc)) ?_ ?_
      · simp [kind_lst h4, hT1, hgi, hX1]
      · rintro _ _ ⟨rfl, rfl⟩
        refine ⟨_, _, rfl, h3.set hf _, hf, ?_⟩
        rw [get_set h4, fin, hb, hFi, ← hA]
        simp [blocksOf, rowsI, rowD]
    | set x v hv =>
      refine Ok.mono (Q := fun z g' => z = ([some (.tup b), some (.tup head), some (.ref f), some (.int i)], .nx) ∧ g' = g1.set f (.lst acc)) ?_ ?_
      · simp [kind_lst h4, hT1, hgi, hX1]
      · rintro _ _ ⟨rfl, rfl⟩
        refine ⟨_, _, rfl, h3.set hf _, hf, ?_⟩
        rw [get_set h4, fin, hb, hFi, ← hA]
        simp [blocksOf, rowsI, rowD]
    | if_ k' t ht x y lx ly hx hy =>
      have g1s := h3.set hf (.lst acc)
      have hh2 : (head ++ [D.int (i : Int), D.int 0]).length + 2 * k' ≤ 50 := by simp; omega
      have hh3 : (head ++ [D.int (i : Int), D.int 1]).length + 2 * k' ≤ 50 := by simp; omega
      obtain ⟨v, g2, e2, j2, rfl, a1, a2, a3⟩ := (ih k' (by omega) (head ++ [.int i, .int 0]) x lx hx (by omega) hh2 n (g1.set f (.lst acc))).to
      have c1 := a1.get h4'
      have hT2 : newT (head ++ [D.int (i : Int), D.int 0]) (g1.set f (.lst acc)) = .ok (.tup (head ++ [D.int (i : Int), D.int 0])) (g1.set f (.lst acc)) := newT_ok (by simp; omega) _
      have hz2 : acc.length + (rows (k' + 1) (head ++ [.int i, .int 0]) x).length + (rows (k' + 1) (head ++ [.int i, .int 1]) y).length ≤ 810000 := by
        rw [← hA]
        simp [blocksOf, rowsI, dl] at hz1 ⊢
        omega
      have hL2 : newL (acc ++ (rows (k' + 1) (head ++ [.int i, .int 0]) x).map rowD) g2 = .ok (.ref g2.length) (g2 ++ [.lst (acc ++ (rows (k' + 1) (head ++ [.int i, .int 0]) x).map rowD)]) := newL_ok (by simp; omega) _
      generalize hacc2 : acc ++ (rows (k' + 1) (head ++ [.int i, .int 0]) x).map rowD = acc2 at hL2
      have hA2 := add_ref c1 a3
      rw [hacc2] at hA2
      obtain ⟨v, g3, e3, j3, rfl, b1, b2, b3⟩ := (ih k' (by omega) (head ++ [.int i, .int 1]) y ly hy (by omega) hh3 n (g2 ++ [.lst acc2])).to
      have c2 := b1.get (get_new g2 (.lst acc2))
      have hT3 : newT (head ++ [D.int (i : Int), D.int 1]) (g2 ++ [.lst acc2]) = .ok (.tup (head ++ [D.int (i : Int), D.int 1])) (g2 ++ [.lst acc2]) := newT_ok (by simp; omega) _
      have hA3 := add_ref c2 b3
      have hL3 : newL (acc2 ++ (rows (k' + 1) (head ++ [.int i, .int 1]) y).map rowD) g3 = .ok (.ref g3.length) (g3 ++ [.lst (acc2 ++ (rows (k' + 1) (head ++ [.int i, .int 1]) y).map rowD)]) := newL_ok (by rw [← hacc2]; simp; omega) _
      rw [show n + k' + 1 = n + (k' + 1) from by omega] at e2 e3
      refine Ok.mono (Q := fun z g' => z = ([some (.tup b), some (.tup head), some (.ref g3.length), some (.int i)], .nx) ∧ g' = g3 ++ [.lst (acc2 ++ (rows (k' + 1) (head ++ [.int i, .int 1]) y).map rowD)]) ?_ ?_
      · simp [kind_lst h4, hT1, hgi, hX1, hT2, e2, hA2, hL2, hT3, e3, hA3, hL3]
      · rintro _ _ ⟨rfl, rfl⟩
        have gr := ((g1s.trans a1).trans (.app _ _)).trans b1
        refine ⟨_, _, rfl, gr.trans (.app _ _), gr.len, ?_⟩
        rw [get_new, fin, hb, hFi, ← hacc2, ← hA]
        simp [blocksOf, rowsI, rowD, dl]
end UkW
end
section
set_option Elab.async false
set_option linter.all false
set_option maxRecDepth 100000
set_option autoImplicit false
set_option maxHeartbeats 1000000
namespace UkW
open Uk
open Mac (Wo Th Ot Nm Bs Pv Vl Wd Ts Sm Bk)
/-! ## Loops as people write them -/
theorem fn_known : P.fn "" "_law_known" = some d__law_known := by rfl
theorem fn_small : P.fn "" "_law_small" = some d__law_small := by rfl
def take1 : Sm := .set .a (.pv (.bs .item))
def keep1 : Sm := .set .b (.pv (.bs .item))
def kGreat (u : Wd) (up : Bool) : Bk := ofL [.ifs ⟨false, u, .bs (.nm .a), .none⟩ (ofL [take1]) (ofL [.ifs (if up then ⟨false, .below, .bs (.nm .a), .bs .item⟩ else ⟨false, .below, .bs .item, .bs (.nm .a)⟩) (ofL [take1]) .nil])]
def kFirst (u : Wd) : Bk := ofL [.ifs ⟨false, u, .bs .item, .at 1⟩ (ofL [take1, .brk]) .nil]
def kTwice (u : Wd) : Bk := ofL [.ifs ⟨false, u, .bs .item, .bs (.nm .a)⟩ (ofL [keep1]) (ofL [take1])]
def kOther (u : Wd) : Bk := ofL [.ifs ⟨true, u, .bs .item, .bs (.nm .a)⟩ (ofL [.set .b (.pv (.bs (.nm .a))), take1]) .nil]
def kLast (u : Wd) : Bk := ofL [.ifs ⟨false, u, .bs .item, .bs .item⟩ (ofL [take1]) (ofL [keep1])]
/-- a block that makes a loop of at most m statements -/
def SmallR (m : Nat) (v : D) : Prop := ∃ b, v = .tup (bkD b) ∧ bkOk 2 b ∧ (rowsT [] 0 b).length ≤ m ∧ bkLen b ≤ 3
theorem newL_5 (a b c d e : D) (g : G) : newL [a, b, c, d, e] g = .ok (.ref g.length) (g ++ [.lst [a, b, c, d, e]]) := newL_ok (by simp) g
theorem known_ok (n : Nat) (g : G) (i : Nat) (h : Rd g i) : Ok (call P (n + 3) "" "_law_known" [.ref i] g) fun v g' => Fr i g g' ∧ SmallR 4 v := by
  refine body_run (n := n + 2) fn_known rfl ?_
  obtain ⟨w, g1, e1, f1, hw⟩ := (pick_new n g i [.str "in", .str "like", .str "same"] (by simp) (by simp) h).to
  have hws : ∃ u : Wd, w = .str (wdS u) := by
    simp at hw
    rcases hw with rfl | rfl | rfl
    · exact ⟨.in_, rfl⟩
    · exact ⟨.alike, rfl⟩
    · exact ⟨.same, rfl⟩
  obtain ⟨u, rfl⟩ := hws
  generalize hu : wdS u = ws at e1
  obtain ⟨w2, g2, e2, f2, hw2⟩ := (pick_new n g1 i [.tup [.str "less", .tup [.str "a"], .tup [.str "item"]], .tup [.str "less", .tup [.str "item"], .tup [.str "a"]]] (by simp) (by simp) f1.st).to
  let tk : D := .tup [.str "set", .str "a", .tup [.str "item"]]
  let kp : D := .tup [.str "set", .str "b", .tup [.str "item"]]
  let x1 : D := .tup [.tup [.str "if", .tup [.str ws, .tup [.str "a"], .tup [.str "none"]], .tup [tk], .tup [.tup [.str "if", w2, .tup [tk], .tup []]]]]
  let x2 : D := .tup [.tup [.str "if", .tup [.str ws, .tup [.str "item"], .tup [.str "at", .int 1]], .tup [tk, .tup [.str "break"]], .tup []]]
  let x3 : D := .tup [.tup [.str "if", .tup [.str ws, .tup [.str "item"], .tup [.str "a"]], .tup [kp], .tup [tk]]]
  let x4 : D := .tup [.tup [.str "if", .tup [.str "not", .tup [.str ws, .tup [.str "item"], .tup [.str "a"]]], .tup [.tup [.str "set", .str "b", .tup [.str "a"]], tk], .tup []]]
  let x5 : D := .tup [.tup [.str "if", .tup [.str ws, .tup [.str "item"], .tup [.str "item"]], .tup [tk], .tup [kp]]]
  obtain ⟨v, g3, e3, f3, hv⟩ := (pick_new n g2 i [x1, x2, x3, x4, x5] (by simp) (by simp) f2.st).to
  refine Ok.mono (Q := fun z g' => z.2 = .rt v ∧ g' = g3) ?_ ?_
  · simp [d__law_known, exs, exe, ev, evs, e1, e2, newL_5]
    rw [e3]
    simp
  · rintro ⟨e, f⟩ _ ⟨hz, rfl⟩
    have hz : f = _ := hz
    subst hz
    refine ⟨(f1.trans f2).trans f3, ?_⟩
    have ok1 : ∀ (b : Bk), (∀ t y z, toL b = [.ifs t y z] → tsOk t → bkLen y ≤ 13 → bkLen z ≤ 13 → bkOk 1 y → bkOk 1 z → bkOk 2 b) := by
      intro b t y z e h1 h2 h3 h4 h5
      refine (bkOk_L b).mpr ?_
      rw [e]
      intro s hs
      rw [List.mem_singleton.mp hs]
      unfold smOk
      exact ⟨h1, 1, rfl, h2, h3, h4, h5⟩
    simp only [List.mem_cons, List.not_mem_nil, or_false] at hv
    rcases hv with rfl | rfl | rfl | rfl | rfl
    · simp only [List.mem_cons, List.not_mem_nil, or_false] at hw2
      rcases hw2 with rfl | rfl
      · refine ⟨kGreat u true, by subst hu; rfl, ?_, ?_, Nat.le_of_ble_eq_true rfl⟩
        · refine ok1 _ _ _ _ rfl (by simp [tsOk, pvOk]) (by decide) (by decide) ?_ ?_ <;> simp [ofL, bkOk, smOk, take1, vlOk, pvOk, tsOk, bkLen]
        · simp [kGreat, ofL, rowsT, rowsS, take1]
      · refine ⟨kGreat u false, by subst hu; rfl, ?_, ?_, Nat.le_of_ble_eq_true rfl⟩
        · refine ok1 _ _ _ _ rfl (by simp [tsOk, pvOk]) (by decide) (by decide) ?_ ?_ <;> simp [ofL, bkOk, smOk, take1, vlOk, pvOk, tsOk, bkLen]
        · simp [kGreat, ofL, rowsT, rowsS, take1]
    · refine ⟨kFirst u, by subst hu; rfl, ?_, ?_, Nat.le_of_ble_eq_true rfl⟩
      · refine ok1 _ _ _ _ rfl (by simp [tsOk, pvOk]) (by decide) (by decide) ?_ ?_ <;> simp [ofL, bkOk, smOk, take1, vlOk, pvOk]
      · simp [kFirst, ofL, rowsT, rowsS, take1]
    · refine ⟨kTwice u, by subst hu; rfl, ?_, ?_, Nat.le_of_ble_eq_true rfl⟩
      · refine ok1 _ _ _ _ rfl (by simp [tsOk, pvOk]) (by decide) (by decide) ?_ ?_ <;> simp [ofL, bkOk, smOk, take1, keep1, vlOk, pvOk]
      · simp [kTwice, ofL, rowsT, rowsS, take1, keep1]
    · refine ⟨kOther u, by subst hu; rfl, ?_, ?_, Nat.le_of_ble_eq_true rfl⟩
      · refine ok1 _ _ _ _ rfl (by simp [tsOk, pvOk]) (by decide) (by decide) ?_ ?_ <;> simp [ofL, bkOk, smOk, take1, vlOk, pvOk]
      · simp [kOther, ofL, rowsT, rowsS, take1]
    · refine ⟨kLast u, by subst hu; rfl, ?_, ?_, Nat.le_of_ble_eq_true rfl⟩
      · refine ok1 _ _ _ _ rfl (by simp [tsOk, pvOk]) (by decide) (by decide) ?_ ?_ <;> simp [ofL, bkOk, smOk, take1, keep1, vlOk, pvOk]
      · simp [kLast, ofL, rowsT, rowsS, take1, keep1]
/-! ## Random loops of few statements -/
theorem lwalk_T (n : Nat) {k : Nat} (hk : k ≤ 3) {b : Bk} (hb : bkOk k b) (hl : bkLen b ≤ 13) (g : G) : Ok (call P (n + 4) "" "_law_walk" [.tup (bkD b), .tup []] g) fun v g' => NewL g ((rowsT [] 0 b).map fun r => rowD (rowTD r)) v g' := by
  have h3 : bkOk 3 b := by
    match k, hk with
    | 0, _ => exact bkOk_up b (bkOk_up b (bkOk_up b hb))
    | 1, _ => exact bkOk_up b (bkOk_up b hb)
    | 2, _ => exact bkOk_up b hb
    | 3, _ => exact hb
  have h := lwalk_ok 3 [] (bkD b) (by rw [bkD_len]; exact hl) (st_bk b h3) (by omega) (by simp) n g
  have e := rows_T b [] h3
  rw [show List.map D.int [] = [] from rfl] at e
  rw [e, List.map_map] at h
  exact h
theorem cut_last (xs : List D) (g : G) (hl : xs.length ≤ 1000) : getCut (.tup xs) none (some (-1)) g = .ok (.tup xs.dropLast) g := by
  have e : sIxE xs.length xs.length (some (-1)) = xs.length - 1 := by
    show (if (-1 : Int) < 0 then ((-1 : Int) + xs.length).toNat else min (-1 : Int).toNat xs.length) = _
    rw [if_pos (by decide)]
    omega
  have e2 : cutL xs 0 (xs.length - 1) = xs.dropLast := by
    unfold cutL
    rw [List.dropLast_eq_take]
    simp
  show newT (cutL xs (sIxE xs.length 0 none) (sIxE xs.length xs.length (some (-1)))) g = _
  rw [e]
  show newT (cutL xs 0 (xs.length - 1)) g = _
  rw [e2]
  exact newT_ok (by simp; omega) g
theorem neg_int (c : Cx) (δ : Env) (g : G) : ev c (.neg (.cst (.int 1))) δ g = .ok (.int (-1)) g := rfl
theorem small_ok (cap : Nat) (n : Nat) (g : G) (i : Nat) (h : Rd g i) : Ok (call P (n + 16) "" "_law_small" [.ref i, .int cap] g) fun v g' => Fr i g g' ∧ SmallR (max cap 4) v := by
  refine body_run (n := n + 15) fn_small rfl ?_
  obtain ⟨v, g1, e1, f1, _, t, rfl, h0, h1⟩ := (draw (n + 14) g i 3 (by omega) (by omega) h).to
  by_cases ht : t = 0
  · obtain ⟨v, g2, e2, f2, b, rfl, hb, hr, hl⟩ := (known_ok (n + 12) g1 i f1.st).to
    refine Ok.mono (Q := fun z g' => z.2 = .rt (.tup (bkD b)) ∧ g' = g2) ?_ ?_
    · simp [d__law_small, exs, exe, ev, evs, e1, ht, e2]
    · rintro ⟨e, f⟩ _ ⟨hz, rfl⟩
      have hz : f = _ := hz
      subst hz
      exact ⟨f1.trans f2, b, rfl, hb, by omega, hl⟩
  · obtain ⟨v, g2, e2, f2, b, rfl, hl, hb⟩ := (block_ok 2 (by omega) n 3 (by omega) g1 i f1.st).to
    rw [show n + 4 * 2 + 7 = n + 15 from by omega] at e2
    have e2 : call P (n + 15) "" "_law_block" [.ref i, .int 0, .int 3] g1 = .ok (.tup (bkD b)) g2 := e2
    simp [d__law_small, exs, exe, ev, evs, e1, ht, e2]
    refine Ok.mono (while_inv (Q := fun z g' => z.2 = .nx ∧ Fr i g g' ∧ ∃ b, z.1 = [some (.ref i), some (.int cap), some (.tup (bkD b))] ∧ bkOk 2 b ∧ (rowsT [] 0 b).length ≤ cap ∧ bkLen b ≤ 3) (fun δ g' => Fr i g g' ∧ ∃ b, δ = [some (.ref i), some (.int cap), some (.tup (bkD b))] ∧ bkOk 2 b ∧ bkLen b ≤ 3) (fun δ g' => match δ with
      | [_, _, some (.tup l)] => l.length
      | _ => 0) ?step most _ _ ?mu ⟨f1.trans f2, b, rfl, hb, hl⟩) ?fin
    case mu =>
      show (bkD b).length < most
      rw [bkD_len]
      have : most = 18446744073709551616 := by rfl
      omega
    case step =>
      rintro δ g3 ⟨f3, b, rfl, hb, hl⟩
      obtain ⟨v, g4, e4, j, rfl, hg, hj, hw⟩ := (lwalk_T (n + 11) (by omega) hb (by omega) g3).to
      rw [show n + 11 + 4 = n + 15 from by omega] at e4
      have f4 : Fr i g g4 := f3.trans (Fr.gr f3.st hg)
      simp [e4, len_ref hw]
      by_cases hc : cap < (rowsT [] 0 b).length
      · have hc' : (cap : Int) < ((rowsT [] 0 b).length : Int) := by omega
        have h1000 : (bkD b).length ≤ 1000 := by rw [bkD_len]; omega
        right
        simp [hc', cut_last _ _ h1000]
        have hne : bkD b ≠ [] := by
          intro z
          cases b with
          | nil => simp [rowsT] at hc
          | cons _ _ => simp [bkD] at z
        refine ⟨hc, ⟨f4, ofL (toL b).dropLast, ?_, bkOk_of fun s hs => (bkOk_L b).mp hb s (List.dropLast_subset _ hs), ?_⟩, ?_⟩
        · rw [bkD_ofL, bkD_L, List.map_dropLast]
        · rw [bkLen_L, toL_ofL]
          rw [bkLen_L] at hl
          simp
          omega
        · have := List.length_pos_iff.mpr hne
          omega
      · have hc' : ¬ (cap : Int) < ((rowsT [] 0 b).length : Int) := by omega
        left
        exact ⟨by omega, f4, b, rfl, hb, by omega, hl⟩
    case fin =>
      rintro ⟨e, f⟩ g' ⟨hz, f3, b, hb, h2, h3, h4⟩
      have hz : f = _ := hz
      have hb : e = _ := hb
      subst hz hb
      simp
      exact ⟨f3, b, rfl, h2, by omega, h4⟩
end UkW
end
section
set_option Elab.async false
set_option linter.all false
set_option maxRecDepth 100000
set_option autoImplicit false
set_option maxHeartbeats 1000000
namespace UkW
open Uk
open Mac (Wo Th Ot Nm Bs Pv Vl Wd Ts Sm Bk)
/-! ## The law -/
theorem fn_law : P.fn "" "law" = some d_law := by rfl
def lap15 : Ss := .c (.asg 3 (.call "_law_pick" (.c (.loc 1) (.c (.lst (.c (.call "_law_small" (.c (.loc 1) (.c (.cst (.int 8)) .n))) (.c (.call "_law_small" (.c (.loc 1) (.c (.cst (.int 8)) .n))) (.c (.tup .n) .n)))) .n)))) (.c (.asg 4 (.mk "Loop" (.c (.loc 3) .n))) (.c (.asg 5 (.call "_law_text" (.c (.call "_law_whole" (.c (.loc 3) .n)) .n))) (.c (.ife (.or_ (.not_ (.call "_law_equal" (.c (.call "write" (.c (.loc 4) .n)) (.c (.loc 5) .n)))) (.or_ (.cmp .ne (.call "read" (.c (.loc 5) .n)) (.loc 4)) (.not_ (.call "_law_equal" (.c (.att (.call "read" (.c (.loc 5) .n)) "block") (.c (.loc 3) .n)))))) (.c (.ret (.cst (.bl false))) .n) .n) (.c (.ife (.not_ (.call "_law_equal" (.c (.call "write" (.c (.call "read" (.c (.loc 5) .n)) .n)) (.c (.loc 5) .n)))) (.c (.ret (.cst (.bl false))) .n) .n) .n))))
theorem law_body : d_law.body = .c (.asg 1 (.call "_law_random" (.c (.loc 0) (.c (.cst (.int 15)) .n)))) (.c (.for_ (.one 2) (.r1 (.cst (.int 4))) lap15) (.c (.ret (.cst (.bl true))) .n)) := by rfl
theorem lap_ok {g : G} {i : Nat} (h : Rd g i) (x0 x2 x3 x4 x5 : Option D) : Ok (exs ⟨P, call P 39, call P 38, none⟩ lap15 [x0, some (.ref i), x2, x3, x4, x5] g) fun z g' => z.2 = .nx ∧ Fr i g g' ∧ ∃ y3 y4 y5, z.1 = [x0, some (.ref i), x2, y3, y4, y5] := by
  obtain ⟨v, g1, e1, f1, b1, rfl, hb1, hr1, hl1⟩ := (small_ok 8 23 g i h).to
  obtain ⟨v, g2, e2, f2, b2, rfl, hb2, hr2, hl2⟩ := (small_ok 8 23 g1 i f1.st).to
  have e1 : call P 39 "" "_law_small" [.ref i, .int 8] g = .ok (.tup (bkD b1)) g1 := e1
  have e2 : call P 39 "" "_law_small" [.ref i, .int 8] g1 = .ok (.tup (bkD b2)) g2 := e2
  obtain ⟨v, g3, e3, f3, hv⟩ := (pick_new 37 g2 i [.tup (bkD b1), .tup (bkD b2), .tup []] (by simp) (by simp) f2.st).to
  have e3 : call P 39 "" "_law_pick" [.ref i, .ref g2.length] (g2 ++ [.lst [.tup (bkD b1), .tup (bkD b2), .tup []]]) = .ok v g3 := e3
  obtain ⟨b, rfl, hg⟩ : ∃ b, v = .tup (bkD b) ∧ Good b := by
    simp only [List.mem_cons, List.not_mem_nil, or_false] at hv
    rcases hv with rfl | rfl | rfl
    · exact ⟨b1, rfl, hb1, by omega⟩
    · exact ⟨b2, rfl, hb2, by omega⟩
    · exact ⟨.nil, rfl, good_nil⟩
  have f03 := (f1.trans f2).trans f3
  obtain ⟨v, g4, e4, rfl, r4, l4⟩ := (mk_good 30 (call P 39) none hg g3).to
  have e4 : make ⟨P, call P 39, call P 38, none⟩ "Loop" [.tup (bkD b)] g3 = .ok (.ref g3.length) g4 := e4
  generalize g3.length = l at *
  have hR : (bkR 1 b).length ≤ 32 := by
    have := bkR_few 1 [] 0 b
    have := hg.few
    omega
  obtain ⟨v, g5, e5, i5, rfl, r5, _, h5⟩ := (lwhole_ok 31 2 b g4 hg.W (by omega)).to
  have e5 : call P 39 "" "_law_whole" [.tup (bkD b)] g4 = .ok (.ref i5) g5 := e5
  obtain ⟨v, g6, e6, r6, rfl⟩ := (ltext_ok 38 hg.lns h5).to
  have e6 : call P 39 "" "_law_text" [.ref i5] g5 = .ok (.str (T (textC (wholeR b)))) g6 := e6
  have l6 := (l4.mono r5).mono r6
  obtain ⟨v, g7, e7, r7, rfl⟩ := (write_ok 31 2 (by omega) l6 hg.W hg.lns).to
  have e7 : call P 39 "" "write" [.ref l] g6 = .ok (.str (T (textC (wholeR b)))) g7 := e7
  obtain ⟨v, g8, e8, rfl, r8⟩ := (equal_0 38 (.str (T (textC (wholeR b)))) rfl g7).to
  have e8 : call P 39 "" "_law_equal" [.str (T (textC (wholeR b))), .str (T (textC (wholeR b)))] g7 = .ok (.bl true) g8 := e8
  obtain ⟨v, g9, e9, a9, rfl, r9, l9⟩ := (read_good 29 (by omega) hg g8).to
  have e9 : call P 39 "" "read" [.str (T (textC (wholeR b)))] g8 = .ok (.ref a9) g9 := e9
  have n9 := ne_same 37 (call P 39) none hg.okD l9 (((l6.mono r7).mono r8).mono r9)
  have n9 : cmpop ⟨P, call P 39, call P 38, none⟩ .ne (.ref a9) (.ref l) g9 = .ok (.bl false) g9 := n9
  obtain ⟨v, g10, e10, a10, rfl, r10, l10⟩ := (read_good 29 (by omega) hg g9).to
  have e10 : call P 39 "" "read" [.str (T (textC (wholeR b)))] g9 = .ok (.ref a10) g10 := e10
  have o10 := l10.block 37 (call P 39) none
  have o10 : attr ⟨P, call P 39, call P 38, none⟩ (.ref a10) "block" g10 = .ok (.tup (bkD b)) g10 := o10
  obtain ⟨v, g11, e11, rfl, r11⟩ := (blk_eql hg.blk 25 g10).to
  have e11 : call P 39 "" "_law_equal" [.tup (bkD b), .tup (bkD b)] g10 = .ok (.bl true) g11 := e11
  obtain ⟨v, g12, e12, a12, rfl, r12, l12⟩ := (read_good 29 (by omega) hg g11).to
  have e12 : call P 39 "" "read" [.str (T (textC (wholeR b)))] g11 = .ok (.ref a12) g12 := e12
  obtain ⟨v, g13, e13, r13, rfl⟩ := (write_ok 31 2 (by omega) l12 hg.W hg.lns).to
  have e13 : call P 39 "" "write" [.ref a12] g12 = .ok (.str (T (textC (wholeR b)))) g13 := e13
  obtain ⟨v, g14, e14, rfl, r14⟩ := (equal_0 38 (.str (T (textC (wholeR b)))) rfl g13).to
  have e14 : call P 39 "" "_law_equal" [.str (T (textC (wholeR b))), .str (T (textC (wholeR b)))] g13 = .ok (.bl true) g14 := e14
  have r314 : Gr g3 g14 := (((((((((r4.trans r5).trans r6).trans r7).trans r8).trans r9).trans r10).trans r11).trans r12).trans r13).trans r14
  refine Ok.mono (Q := fun z g' => z = ([x0, some (.ref i), x2, some (.tup (bkD b)), some (.ref l), some (.str (T (textC (wholeR b))))], .nx) ∧ g' = g14) ?_ ?_
  · generalize T (textC (wholeR b)) = tx at *
    generalize bkD b = B at *
    generalize bkD b1 = B1 at *
    generalize bkD b2 = B2 at *
    simp [lap15, exs, exe, ev, evs, e1, e2, newL_3, e3, e4, e5, e6, e7, e8, e9, n9, e10, o10, e11, e12, e13, e14]
  · rintro z g' ⟨rfl, rfl⟩
    exact ⟨rfl, f03.trans (Fr.gr f03.st r314), _, _, _, rfl⟩
theorem says : Says pd 63 40 := by
  intro ns hn
  have main : Ok (call P 40 "" "law" [.fro (ns.map D.int)] []) fun v _ => v = .bl true := by
    refine body_run (n := 39) fn_law rfl ?_
    rw [law_body]
    show Ok (exs ⟨P, call P 39, call P 38, none⟩ _ [some (.fro (ns.map D.int)), none, none, none, none, none] []) _
    obtain ⟨v, g1, e1, i, rfl, h1⟩ := (random_ok 15 38 ns (by omega) []).to
    have e1 : call P 39 "" "_law_random" [.fro (ns.map D.int), .int 15] [] = .ok (.ref i) g1 := e1
    generalize List.map D.int ns = nsD at *
    have loop := for_inv (w := .rng 0 1) (t := .one 2) (n := 4) (body := exs ⟨P, call P 39, call P 38, none⟩ lap15)
      (fun k δ g' => (∃ y2 y3 y4 y5, δ = [some (.fro nsD), some (.ref i), y2, y3, y4, y5]) ∧ Rd g' i)
      (fun _ _ => False)
      (fun k δ g' hk hI => by
        obtain ⟨⟨y2, y3, y4, y5, rfl⟩, h⟩ := hI
        refine ⟨_, _, item_rng hk g', rfl, ?_⟩
        refine (lap_ok h (some (.fro nsD)) (some (.int (k : Int))) y3 y4 y5).mono fun z g2 q => ?_
        obtain ⟨hz, f, z3, z4, z5, hz2⟩ := q
        obtain ⟨δ2, fl⟩ := z
        have hz : fl = .nx := hz
        have hz2 : δ2 = _ := hz2
        subst hz hz2
        exact ⟨⟨_, _, _, _, rfl⟩, f.st⟩)
      (fun δ g' hI => item_rng_end g') 4 0 [some (.fro nsD), some (.ref i), none, none, none, none] g1 (by omega) ⟨⟨_, _, _, _, rfl⟩, h1⟩
    generalize hL : lap15 = L at *
    have ei : evI ⟨P, call P 39, call P 38, none⟩ (.r1 (.cst (.int 4))) [some (.fro nsD), some (.ref i), none, none, none, none] g1 = .ok (4, .rng 0 1) g1 := rfl
    simp only [exs, exe, ev, evs, bind_ok, List.getElem?_cons_zero, e1, List.set_cons_succ, List.set_cons_zero, ei, Ok_bind]
    refine loop.mono fun z g' q => ?_
    obtain ⟨δ, fl⟩ := z
    cases fl with
    | rt d => exact q.elim
    | nx => rfl
  obtain ⟨v, g, e, rfl⟩ := main.to
  exact ⟨g, e⟩
end UkW
end
theorem PySem.Challenge.cw_unlikeself_k15_loops_written_and_read_ba_holds : PySem.Challenge.rw_unlikeself_k15_loops_written_and_read_ba.Holds := by
  exact Uk.holds UkW.says
