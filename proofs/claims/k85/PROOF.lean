import PyProof.Rows.All
import HandS.ForMost
import HandS.ForExc
import HandS.More
import HandS.Walk
import HandS.Zip
import HandS.Rev
import HandS.TupAny
import HandS.Style
import HandS.Conv
import HandS.SortInts
import HandS.IsInst
import HandS.ExcInit
import HandS.ExcIs
import HandS.Flow
import HandS.Small
import KE.DataCmp
import KE.SortData
import PyProof.ReprRoads
import HandS.Deep
import HandS.Ends
import HandS.ExcOwn
import KE.GoesMore
import KE.KDictZip
import KE.GoesEnum
import HandS.ExcField
import KE.KExcIs
import PyProof.ReprLen
import PySem.Challenge.RW_parcelways_k85_whole_rules_put_in_and_ou
/-! V0 -/
set_option autoImplicit false
set_option linter.all false
/-! V0: values, the compact tree, the evaluator. -/
namespace Vf
open PySem

abbrev Key := L2.Key
/-- a value, as data; a list, a dict: whether it is owned -/
inductive D where
  | non | bl (b : Bool) | int (i : Int) | str (x : Str)
  | tup (ds : List D)
  | lst (own : Bool) (ds : List D)
  | dct (own : Bool) (ks : List Key) (vs : List D)
  | ref (n : Nat)
  | exn (c : Str) (fs : List D)

abbrev Sto := List (List D)
inductive R (α : Type) where
  | ok (a : α) (μ : Sto)
  | exc (c : Str) (fs : List D) (μ : Sto)
  | bad
abbrev M (α : Type) := Sto → R α
def M.ret {α : Type} (a : α) : M α := fun μ => .ok a μ
def M.bind {α β : Type} (m : M α) (f : α → M β) : M β := fun μ => match m μ with
  | .ok a μ' => f a μ'
  | .exc c fs μ' => .exc c fs μ'
  | .bad => .bad
def M.bad {α : Type} : M α := fun _ => .bad
def M.exc {α : Type} (c : Str) (fs : List D) : M α := fun μ => .exc c fs μ
def LINE : Nat := 16777216
def guard' {α : Type} (b : Bool) (m : M α) : M α := match b with
  | true => m
  | false => M.bad
/-- no exception leaves it -/
def nox {α : Type} (m : M α) : M α := fun μ => match m μ with
  | .ok a μ' => .ok a μ'
  | _ => .bad
def ofO {α : Type} : Option α → M α
  | some a => M.ret a
  | none => M.bad

/-! ### bits -/
mutual
def D.fz : D → D
  | .tup ds => .tup (D.fzL ds)
  | .lst _ ds => .lst false (D.fzL ds)
  | .dct _ ks vs => .dct false ks (D.fzL vs)
  | d => d
def D.fzL : List D → List D
  | [] => []
  | d :: ds => d.fz :: D.fzL ds
end
mutual
def D.nb : D → Bool
  | .tup ds => D.nbL ds
  | .lst b ds => !b && D.nbL ds
  | .dct b _ vs => !b && D.nbL vs
  | .exn _ _ => false
  | _ => true
def D.nbL : List D → Bool
  | [] => true
  | d :: ds => d.nb && D.nbL ds
end

/-! all lists in it are owned -/
mutual
def D.ab : D → Bool
  | .tup ds => D.abL ds
  | .lst b ds => b && decide (ds.length < LINE) && D.abL ds
  | .non | .bl _ | .int _ | .str _ => true
  | _ => false
def D.abL : List D → Bool
  | [] => true
  | d :: ds => d.ab && D.abL ds
end

/-! ### data for == -/
mutual
def D.toP : D → Option PyData
  | .non => some .none
  | .bl b => some (.bool b)
  | .int i => some (.int i)
  | .str x => some (.str x)
  | .tup ds => (D.toPL ds).map .tuple
  | .lst _ ds => (D.toPL ds).map .list
  | _ => none
def D.toPL : List D → Option (List PyData)
  | [] => some []
  | d :: ds => match d.toP, D.toPL ds with
    | some p, some ps => some (p :: ps)
    | _, _ => none
end
/-- two texts -/
def eqS : D → D → Option Bool
  | .str x, .str y => some (decide (x = y))
  | _, _ => none
def D.eqD (d e : D) : Option Bool := match d.toP, e.toP with
  | some p, some q => if SeqAt.shaped p && SeqAt.shaped q then some (PyData.eqv p q) else eqS d e
  | _, _ => none
/-- flat things, and == of them -/
def D.flat : D → Bool
  | .non | .bl _ | .int _ | .str _ => true
  | _ => false
def D.toV : D → L2.V
  | .non => .non | .bl b => .bl b | .int i => .int i | .str x => .str x
  | _ => .ty "?"

/-! no shared object in it -/
mutual
def D.nr : D → Bool
  | .tup ds => D.nrL ds
  | .lst _ ds => D.nrL ds
  | .dct _ _ vs => D.nrL vs
  | .non | .bl _ | .int _ | .str _ => true
  | _ => false
def D.nrL : List D → Bool
  | [] => true
  | d :: ds => d.nr && D.nrL ds
end

/-! ### the compact tree -/
inductive Bop where | add | sub | mul | fdiv | mod | pow
  deriving DecidableEq
inductive Cop where | eq | ne | lt | le | gt | ge | isN | notN | isIn | notIn
  deriving DecidableEq
inductive Ty where | int | bool | str | list | tuple | dict
  deriving DecidableEq
inductive Blt where | len | all | any | sum | sorted | list | tuple | int | abs | str | lenum | trev | repr | sortd
  deriving DecidableEq
inductive T where
  | nm (i : Nat)
  | tup (ts : List T)
mutual
inductive E where
  | var (i : Nat) | brw (i : Nat)
  | non | bl (b : Bool) | int (i : Int) | str (x : Str)
  | glob (x : Str)
  | bin (op : Bop) (a b : E)
  | addM (a b : E)
  | neg (a : E) | not (a : E)
  | and (a b : E) | or (a b : E)
  | cmp (op : Cop) (a b : E)
  | chain (op op' : Cop) (a b c : E)
  | ife (c a b : E)
  | tup (es : List E) | lst (es : List E) | newRef (es : List E)
  | dct0
  | dct1 (k v : E)
  | idx (a i : E)
  | at0 (i : Nat) (c : Int)
  | slc (a : E) (lo hi : Option E)
  | rev (a : E)
  | isi (a : E) (t : Ty)
  | fld (i : Nat) (f : Str) | isE (i : Nat) (c : Str)
  | call (f : Str) (es : List E) | callB (f : Str) (es : List E)
  | blt (b : Blt) (e : E)
  | lc (t : T) (it : I) (c : Option E) (e : E)
  | lc2 (t : T) (it : I) (t' : T) (it' : I) (c : Option E) (e : E)
inductive I where
  | seq (e : E)
  | rng1 (a : E) | rng2 (a b : E)
  | enum (e : E)
  | zip (a b : E)
  | rev (e : E)
end
inductive S where
  | set (fr : Bool) (t : T) (e : E)
  | aug (i : Nat) (op : Bop) (e : E)
  | app (i : Nat) (e : E)
  | appAt (i : Nat) (k e : E)
  | app2 (i : Nat) (m1 m2 : Int) (e : E)
  | put (i : Nat) (k e : E)
  | rput (a k e : E)
  | raug (a k : E) (op : Bop) (e : E)
  | expr (e : E)
  | ret (e : E) | retN | retMv (i : Nat)
  | ife (c : E) (a b : List S)
  | for_ (t : T) (it : I) (b : List S)
  | while_ (c : E) (b : List S)
  | raise (c : Str) (es : List E)
  | nev
  | tryS (c : Str) (i : Nat) (s : S) (hs : List S)
  | try2 (c1 : Str) (i1 : Nat) (h1 : List S) (c2 : Str) (i2 : Nat) (h2 : List S) (s : S)
  | retPk (k1 : Str) (n1 : Int) (k2 : Str) (i : Nat) (e : E)
  | ruin (i : Nat) (c : Int) (m a : Nat)
  | frz (i : Nat) | bend (i : Nat)
  | pass | brk | cont
structure Fn where
  np : Nat
  ns : Nat
  body : List S
abbrev Table := List (Str × Fn)

/-! ### operations -/
/-- an operand that is read: a borrowed list's parts are frozen; anything else is frozen itself -/
def D.inb : D → Bool
  | .lst _ ds => D.nbL ds
  | .dct _ _ vs => D.nbL vs
  | d => d.nb
def isBrw : E → Bool
  | .brw _ => true
  | _ => false
def opnd (br : Bool) (d : D) : M D := match br with
  | true => guard' d.inb (M.ret d)
  | false => M.ret d.fz
def keyOf : D → Option Key
  | .int i => some (.inl i)
  | .str x => some (.inr x)
  | _ => none
def dkey : Key → D
  | .inl i => .int i
  | .inr x => .str x
def kget : List Key → List D → Key → Option D
  | k :: ks, v :: vs, q => if k = q then some v else kget ks vs q
  | _, _, _ => none
def krep : List Key → List D → Key → D → List D
  | k :: ks, v :: vs, q, x => (if k = q then x else v) :: krep ks vs q x
  | _, vs, _, _ => vs
def kput (ks : List Key) (vs : List D) (q : Key) (x : D) : List Key × List D :=
  if ks.any (fun k => decide (k = q)) = true then (ks, krep ks vs q x) else (ks ++ [q], vs ++ [x])
/-- an insertion sort -/
def ins (x : Int) : List Int → List Int
  | [] => [x]
  | y :: r => if x ≤ y then x :: y :: r else y :: ins x r
def isort : List Int → List Int
  | [] => []
  | x :: r => ins x (isort r)
def dInts : List D → Option (List Int)
  | [] => some []
  | .int i :: r => (dInts r).map (i :: ·)
  | _ => none
def dBools : List D → Option (List Bool)
  | [] => some []
  | .bl i :: r => (dBools r).map (i :: ·)
  | _ => none
def keyInts : List Key → Option (List Int)
  | [] => some []
  | .inl i :: r => (keyInts r).map (i :: ·)
  | _ => none
def B64 : Int := 18446744073709551616
def tLst (o : Bool) (ds : List D) : M D := guard' (decide (ds.length ≤ LINE)) (M.ret (.lst o ds))
def tTup (ds : List D) : M D := guard' (decide (ds.length ≤ LINE)) (M.ret (.tup ds))
def binD (op : Bop) (x y : D) : M D := match op, x, y with
  | .add, .int i, .int j => M.ret (.int (i + j))
  | .sub, .int i, .int j => M.ret (.int (i - j))
  | .mul, .int i, .int j => guard' (decide ((-B64 < i ∧ i < B64) ∨ (-B64 < j ∧ j < B64))) (M.ret (.int (i * j)))
  | .mul, .lst _ ds, .int k => guard' (decide (-9223372036854775808 ≤ k ∧ k < 9223372036854775808 ∧ ds.length * k.toNat ≤ LINE)) (M.ret (.lst true (List.replicate k.toNat ds).flatten))
  | .fdiv, .int i, .int j => guard' (decide (0 < j ∧ j < 1073741824)) (M.ret (.int (i / j)))
  | .mod, .int i, .int j => guard' (decide (0 < j)) (M.ret (.int (i % j)))
  | .pow, .int i, .int j => guard' (decide (0 ≤ j ∧ j ≤ 1000000 ∧ -B64 < i ∧ i < B64)) (M.ret (.int (i ^ j.toNat)))
  | .add, .str x, .str y => guard' (decide (x.length + y.length ≤ LINE)) (M.ret (.str (x ++ y)))
  | .add, .tup as, .tup bs => tTup (as ++ bs)
  | .add, .lst _ as, .lst _ bs => tLst true (as ++ bs)
  | _, _, _ => M.bad
/-- list + list, the parts are as they were -/
def addMD : D → D → M D
  | .lst _ as, .lst _ bs => tLst true (as ++ bs)
  | _, _ => M.bad
/-- x in ds, by data -/
def inP (x : D) (ds : List D) : Option Bool := match x.toP, D.toPL ds with
  | some p, some ps => if SeqAt.shaped p && SeqAt.shaped (.list ps) then some (ps.any fun z => PyData.eqv z p) else none
  | _, _ => none
/-- an order of data that are alike -/
def isNoP : PyData → Bool
  | .none => true
  | _ => false
def ordP (g : PyData → PyData → Bool) (x y : D) : M D := match x.toP, y.toP with
  | some p, some q => guard' (PySem.W.alike p q && !isNoP p && decide (min p.depth q.depth ≤ 60)) (M.ret (.bl (g p q)))
  | _, _ => M.bad
def gLt (p q : PyData) : Bool := PySem.W.dataLt p q
def gLe (p q : PyData) : Bool := !PySem.W.dataLt q p
def gGt (p q : PyData) : Bool := PySem.W.dataLt q p
def gGe (p q : PyData) : Bool := !PySem.W.dataLt p q
/-- the text that shows it -/
def reprP : Option PyData → M D
  | some p => guard' (p.showable && !p.hasDict && decide (p.depth ≤ 60) && decide (p.shown.length ≤ LINE)) (M.ret (.str p.shown))
  | none => M.bad
def reprD : D → M D
  | .lst o ds => reprP (D.lst o ds).toP
  | .tup ds => reprP (D.tup ds).toP
  | _ => M.bad
/-- sorted, by data -/
def alikes (ps : List PyData) : Bool := ps.all fun q => ps.all fun r => PySem.W.alike q r
def tupP : PyData → Bool
  | .tuple (_ :: _) => true
  | _ => false
def noTupP : PyData → Bool
  | .tuple _ => false
  | .none => false
  | _ => true
def sortdD (ds : List D) : M D := match D.toPL ds with
  | some ps => guard' (alikes ps && (ps.all tupP || ps.all noTupP) && ps.all fun p => decide (p.depth ≤ 60)) (M.ret (.lst true (((ds.zip ps).mergeSort (PySem.W.dataLe false Prod.snd)).map Prod.fst)))
  | none => M.bad
def inD (x y : D) : Option Bool := match y with
  | .lst _ ds => if x.flat && ds.all D.flat then some (L2.inV x.toV (ds.map D.toV)) else inP x ds
  | .tup ds => if x.flat && ds.all D.flat then some (L2.inV x.toV (ds.map D.toV)) else none
  | .dct true ks vs => (keyOf x).map fun k => (kget ks vs k).isSome
  | .dct false ks vs => match x with
    | .str z => some (kget ks vs (.inr z)).isSome
    | _ => none
  | _ => none
def cmpD (op : Cop) (x y : D) : M D := match op with
  | .eq => ofO ((D.eqD x y).map .bl)
  | .ne => ofO ((D.eqD x y).map fun b => .bl (!b))
  | .lt => match x, y with | .int i, .int j => M.ret (.bl (decide (i < j))) | _, _ => ordP gLt x y
  | .le => match x, y with | .int i, .int j => M.ret (.bl (decide (i ≤ j))) | _, _ => ordP gLe x y
  | .gt => match x, y with | .int i, .int j => M.ret (.bl (decide (j < i))) | _, _ => ordP gGt x y
  | .ge => match x, y with | .int i, .int j => M.ret (.bl (decide (j ≤ i))) | _, _ => ordP gGe x y
  | .isN => match x, y with | .non, .non => M.ret (.bl true) | _, .non => M.ret (.bl false) | _, _ => M.bad
  | .notN => match x, y with | .non, .non => M.ret (.bl false) | _, .non => M.ret (.bl true) | _, _ => M.bad
  | .isIn => ofO ((inD x y).map .bl)
  | .notIn => ofO ((inD x y).map fun b => .bl (!b))
def truD : D → Option Bool
  | .non => some false
  | .bl b => some b
  | .int i => some (i != 0)
  | .str x => if x.length ≤ LINE then some ((x.length : Int) != 0) else none
  | .tup ds => some (!ds.isEmpty)
  | .lst _ ds => some (!ds.isEmpty)
  | _ => none
def getD' (ds : List D) (i : Int) : M D := match L2.atI ds i with
  | some d => M.ret d
  | none => M.bad
def idxD (x i : D) : M D := match x, i with
  | .tup ds, .int i => getD' ds i
  | .lst _ ds, .int i => getD' ds i
  | .dct true ks vs, k => match keyOf k with
    | some k => ofO (kget ks vs k)
    | none => M.bad
  | .dct false ks vs, .str z => ofO (kget ks vs (.inr z))
  | .ref n, .int i => fun μ => match μ[n]? with
    | some ds => getD' ds i μ
    | none => .bad
  | _, _ => M.bad
def cutD (ds : List D) (lo hi : Option Int) : List D := (ds.drop (HT.sIx ds.length 0 lo)).take (HT.sIx ds.length ds.length hi - HT.sIx ds.length 0 lo)
def slcD (x : D) (lo hi : Option Int) : M D := match x with
  | .tup ds => M.ret (.tup (cutD ds lo hi))
  | .lst _ ds => M.ret (.lst true (cutD ds lo hi))
  | _ => M.bad
def isTy : D → Ty → Bool
  | .int _, .int => true
  | .bl _, .int => true
  | .bl _, .bool => true
  | .str _, .str => true
  | .lst _ _, .list => true
  | .tup _, .tuple => true
  | .dct _ _ _, .dict => true
  | _, _ => false
def hasTy : D → Bool
  | .ref _ => false
  | .exn _ _ => false
  | _ => true
def num : Nat → List D → List D
  | _, [] => []
  | n, d :: ds => .tup [.int n, d] :: num (n + 1) ds
def bltD (b : Blt) (x : D) : M D := match b, x with
  | .len, .lst _ ds => M.ret (.int ds.length)
  | .len, .tup ds => M.ret (.int ds.length)
  | .len, .str s => guard' (decide (s.length ≤ LINE)) (M.ret (.int s.length))
  | .len, .ref n => fun μ => match μ[n]? with
    | some ds => .ok (.int ds.length) μ
    | none => .bad
  | .all, .lst _ ds => ofO ((dBools ds).map fun bs => .bl (bs.all id))
  | .any, .lst _ ds => ofO ((dBools ds).map fun bs => .bl (bs.any id))
  | .sum, .lst _ ds => ofO ((dInts ds).map fun is => .int is.sum)
  | .sorted, .lst _ ds => ofO ((dInts ds).map fun is => .lst true ((isort is).map .int))
  | .sorted, .dct true ks _ => guard' (decide (ks.length < 64)) (ofO ((keyInts ks).map fun is => .lst true ((isort is).map .int)))
  | .list, .lst _ ds => M.ret (.lst true ds)
  | .list, .tup ds => M.ret (.lst true ds)
  | .tuple, .lst _ ds => M.ret (.tup ds)
  | .tuple, .tup ds => M.ret (.tup ds)
  | .int, .int i => M.ret (.int i)
  | .int, .bl b => M.ret (.int (if b then 1 else 0))
  | .abs, .int i => M.ret (.int (if i < 0 then -i else i))
  | .str, .int i => guard' (decide (i.natAbs.log2 < 1920)) (M.ret (.str (toString i)))
  | .lenum, .lst _ ds => M.ret (.lst true (num 0 ds))
  | .lenum, .tup ds => M.ret (.lst true (num 0 ds))
  | .trev, .lst _ ds => M.ret (.tup ds.reverse)
  | .repr, x => reprD x
  | .sortd, .lst _ ds => sortdD ds
  | _, _ => M.bad
def tests : D → M Bool := fun d => ofO (truD d)

/-! ### targets -/
abbrev Env := List (Option D)
mutual
def asg : T → D → Env → Option Env
  | .nm i, d, ρ => if i < ρ.length then some (ρ.set i (some d)) else none
  | .tup ts, .tup ds, ρ => if D.nbL ds then asgL ts ds ρ else none
  | .tup _, _, _ => none
def asgL : List T → List D → Env → Option Env
  | [], [], ρ => some ρ
  | t :: ts, d :: ds, ρ => match asg t d ρ with
    | some ρ' => asgL ts ds ρ'
    | none => none
  | _, _, _ => none
end

/-! ### loops -/
/-- a comprehension's turns -/
def mapC (f : D → M (Option D)) : List D → List D → M (List D)
  | [], acc => M.ret acc
  | x :: xs, acc => M.bind (f x) fun
    | some y => guard' (decide (acc.length < LINE)) (mapC f xs (acc ++ [y]))
    | none => mapC f xs acc
def foldC (f : D → List D → M (List D)) : List D → List D → M (List D)
  | [], acc => M.ret acc
  | x :: xs, acc => M.bind (f x acc) fun acc' => foldC f xs acc'
inductive Fl where
  | nx (ρ : Env) | brk (ρ : Env) | cont (ρ : Env) | rt (d : D)
def forL (f : D → Env → M Fl) : List D → Env → M Fl
  | [], ρ => M.ret (.nx ρ)
  | x :: xs, ρ => M.bind (f x ρ) fun
    | .nx ρ' => forL f xs ρ'
    | .cont ρ' => forL f xs ρ'
    | .brk ρ' => M.ret (.nx ρ')
    | .rt d => M.ret (.rt d)
def whl (c : Env → M Bool) (f : Env → M Fl) : Nat → Env → M Fl
  | 0, _ => M.bad
  | n + 1, ρ => M.bind (c ρ) fun
    | false => M.ret (.nx ρ)
    | true => M.bind (f ρ) fun
      | .nx ρ' => whl c f n ρ'
      | .cont ρ' => whl c f n ρ'
      | .brk ρ' => M.ret (.nx ρ')
      | .rt d => M.ret (.rt d)
def WF : Nat := 100000
def wipe (ρ : Env) : List Nat → Env
  | [] => ρ
  | i :: is => (wipe ρ is).set i none
mutual
def T.ix : T → List Nat
  | .nm i => [i]
  | .tup ts => T.ixL ts
def T.ixL : List T → List Nat
  | [] => []
  | t :: ts => t.ix ++ T.ixL ts
end
def zipD : List D → List D → List D
  | x :: xs, y :: ys => .tup [x, y] :: zipD xs ys
  | _, _ => []
def chars (x : Str) : List D := x.cps.toList.map fun c => .str ⟨#[c]⟩
def items : D → M (List D)
  | .lst _ ds => M.ret ds
  | .tup ds => M.ret ds
  | _ => M.bad
def itemsL : D → M (List D)
  | .lst _ ds => M.ret ds
  | _ => M.bad
def rng (a b : Int) : M (List D) := guard' (decide (-4611686018427387904 ≤ a ∧ a < 4611686018427387904 ∧ -4611686018427387904 ≤ b ∧ b < 4611686018427387904)) (M.ret ((List.range (b - a).toNat).map fun i => .int (a + (i : Nat))))

/-! ### the evaluator -/
/-- what is known of the exceptions' classes: the fields; is one of the other -/
structure XI where
  flds : Str → Option (List Str)
  sub : Str → Str → Option Bool
structure Cfg where
  fn : Str → List D → M D
  gl : Str → Option D
  xi : XI
section
variable (Φ : Cfg)
mutual
def evE : E → Env → M D
  | .var i, ρ => match ρ[i]? with
    | some (some d) => guard' d.nb (M.ret d)
    | _ => M.bad
  | .brw i, ρ => match ρ[i]? with
    | some (some d) => M.ret d
    | _ => M.bad
  | .non, _ => M.ret .non
  | .bl b, _ => M.ret (.bl b)
  | .int i, _ => M.ret (.int i)
  | .str x, _ => M.ret (.str x)
  | .glob x, _ => ofO (Φ.gl x)
  | .bin op a b, ρ => M.bind (M.bind (evE a ρ) (opnd (isBrw a))) fun x => M.bind (M.bind (evE b ρ) (opnd (isBrw b))) fun y => binD op x y
  | .addM a b, ρ => M.bind (evE a ρ) fun x => M.bind (evE b ρ) fun y => addMD x y
  | .neg a, ρ => M.bind (evE a ρ) fun | .int i => M.ret (.int (-i)) | _ => M.bad
  | .not a, ρ => M.bind (M.bind (evE a ρ) (opnd (isBrw a))) fun x => M.bind (tests x) fun b => M.ret (.bl (!b))
  | .and a b, ρ => M.bind (evE a ρ) fun x => M.bind (tests x) fun | true => evE b ρ | false => M.ret x
  | .or a b, ρ => M.bind (evE a ρ) fun x => M.bind (tests x) fun | true => M.ret x | false => evE b ρ
  | .cmp op a b, ρ => M.bind (M.bind (evE a ρ) (opnd (isBrw a))) fun x => M.bind (M.bind (evE b ρ) (opnd (isBrw b))) fun y => cmpD op x y
  | .chain op op' a b c, ρ => M.bind (M.bind (evE a ρ) (opnd (isBrw a))) fun x => M.bind (M.bind (evE b ρ) (opnd (isBrw b))) fun y => M.bind (cmpD op x y) fun
    | .bl true => M.bind (M.bind (evE c ρ) (opnd (isBrw c))) fun z => cmpD op' y z
    | .bl false => M.ret (.bl false)
    | _ => M.bad
  | .ife c a b, ρ => M.bind (M.bind (M.bind (evE c ρ) (opnd (isBrw c))) tests) fun | true => evE a ρ | false => evE b ρ
  | .tup es, ρ => M.bind (evEs es ρ) fun ds => tTup ds
  | .lst es, ρ => M.bind (evEs es ρ) fun ds => tLst true ds
  | .newRef es, ρ => M.bind (evEs es ρ) fun ds => guard' (decide (ds.length ≤ LINE) && D.nbL (ds.map D.fz)) fun μ => .ok (.ref μ.length) (μ ++ [ds.map D.fz])
  | .dct0, _ => M.ret (.dct true [] [])
  | .dct1 k v, ρ => M.bind (evE k ρ) fun k => M.bind (evE v ρ) fun v => match keyOf k with
      | some k => guard' v.nb (M.ret (.dct true [k] [v]))
      | none => M.bad
  | .idx a i, ρ => M.bind (M.bind (evE a ρ) (opnd (isBrw a))) fun x => M.bind (evE i ρ) fun y => idxD x y
  | .at0 i c, ρ => match ρ[i]? with
    | some (some (.tup ds)) => match L2.atI ds c with
      | some d => guard' d.flat (M.ret d)
      | none => M.bad
    | _ => M.bad
  | .slc a lo hi, ρ => M.bind (M.bind (evE a ρ) (opnd (isBrw a))) fun x => M.bind (evO lo ρ) fun l => M.bind (evO hi ρ) fun h => slcD x l h
  | .rev a, ρ => M.bind (M.bind (evE a ρ) (opnd (isBrw a))) fun
    | .lst _ ds => M.ret (.lst true ds.reverse)
    | _ => M.bad
  | .isi a t, ρ => M.bind (M.bind (evE a ρ) (opnd (isBrw a))) fun x => guard' (hasTy x) (M.ret (.bl (isTy x t)))
  | .fld i f, ρ => match ρ[i]? with
    | some (some (.exn c fs)) => match Φ.xi.flds c with
      | some ns => ofO ((ns.zip fs).lookup f)
      | none => M.bad
    | _ => M.bad
  | .isE i k, ρ => match ρ[i]? with
    | some (some (.exn c _)) => ofO ((Φ.xi.sub c k).map .bl)
    | _ => M.bad
  | .call f es, ρ => M.bind (evEs es ρ) fun ds => Φ.fn f (D.fzL ds)
  | .callB f es, ρ => M.bind (evEs es ρ) fun ds μ => match Φ.fn f (D.fzL ds) [] with
    | .ok d _ => if d.flat && D.nrL ds then .ok d μ else .bad
    | _ => .bad
  | .blt b e, ρ => M.bind (M.bind (evE e ρ) (opnd (isBrw e))) fun x => bltD b x
  | .lc t it c e, ρ => M.bind (evI it ρ) fun xs => M.bind (nox (mapC (fun x => match asg t x (wipe ρ t.ix) with
      | some ρ' => M.bind (evC c ρ') fun | true => M.bind (evE e ρ') fun y => M.ret (some y) | false => M.ret none
      | none => M.bad) xs [])) fun ys => M.ret (.lst true ys)
  | .lc2 t it t' it' c e, ρ => M.bind (evI it ρ) fun xs => M.bind (nox (foldC (fun x acc => match asg t x (wipe ρ (t.ix ++ t'.ix)) with
      | some ρ1 => M.bind (evI it' ρ1) fun ys => mapC (fun y => match asg t' y (wipe ρ1 t'.ix) with
        | some ρ2 => M.bind (evC c ρ2) fun | true => M.bind (evE e ρ2) fun z => M.ret (some z) | false => M.ret none
        | none => M.bad) ys acc
      | none => M.bad) xs [])) fun ys => M.ret (.lst true ys)
def evEs : List E → Env → M (List D)
  | [], _ => M.ret []
  | e :: es, ρ => M.bind (evE e ρ) fun d => M.bind (evEs es ρ) fun ds => M.ret (d :: ds)
def evO : Option E → Env → M (Option Int)
  | none, _ => M.ret none
  | some e, ρ => M.bind (evE e ρ) fun | .int i => M.ret (some i) | _ => M.bad
def evC : Option E → Env → M Bool
  | none, _ => M.ret true
  | some e, ρ => M.bind (M.bind (evE e ρ) (opnd (isBrw e))) fun x => tests x
def evI : I → Env → M (List D)
  | .seq e, ρ => M.bind (M.bind (evE e ρ) (opnd (isBrw e))) items
  | .rng1 a, ρ => M.bind (evE a ρ) fun | .int j => rng 0 j | _ => M.bad
  | .rng2 a b, ρ => M.bind (evE a ρ) fun x => M.bind (evE b ρ) fun y => match x, y with | .int i, .int j => rng i j | _, _ => M.bad
  | .enum e, ρ => M.bind (M.bind (evE e ρ) (opnd (isBrw e))) fun x => M.bind (itemsL x) fun ds => M.ret (num 0 ds)
  | .zip a b, ρ => M.bind (M.bind (evE a ρ) (opnd (isBrw a))) fun x => M.bind (M.bind (evE b ρ) (opnd (isBrw b))) fun y => match x, y with
    | .lst _ xs, .lst _ ys => M.ret (zipD xs ys)
    | .tup xs, .tup ys => M.ret (zipD xs ys)
    | .lst _ xs, .tup ys => M.ret (zipD xs ys)
    | .str s, .lst _ ys => M.ret (zipD (chars s) ys)
    | _, _ => M.bad
  | .rev e, ρ => M.bind (M.bind (evE e ρ) (opnd (isBrw e))) fun x => M.bind (itemsL x) fun ds => M.ret ds.reverse
end
end

/-! ### statements -/
def augD (op : Bop) (x y : D) : M D := match op, x, y with
  | .add, .int i, .int j => M.ret (.int (i + j))
  | .sub, .int i, .int j => M.ret (.int (i - j))
  | _, _, _ => M.bad
def ixD (n : Nat) : D → Option Nat
  | .int k => L2.ixN n k
  | _ => none
def putD (x k d : D) : M D := match x with
  | .lst true ds => match ixD ds.length k with
    | some j => guard' (D.nbL ds) (M.ret (.lst true (ds.set j d)))
    | none => M.bad
  | .dct true ks vs => match keyOf k with
    | some k => guard' (decide (ks.length < LINE)) (M.ret (.dct true (kput ks vs k d).1 (kput ks vs k d).2))
    | none => M.bad
  | _ => M.bad
def setR (a k d : D) : M Unit := match a with
  | .ref n => fun μ => match μ[n]? with
    | some ds => match ixD ds.length k with
      | some j => .ok () (μ.set n (ds.set j d))
      | none => .bad
    | none => .bad
  | _ => M.bad
def getR (a k : D) : M D := match a with
  | .ref n => fun μ => match μ[n]? with
    | some ds => match ixD ds.length k with
      | some j => ofO ds[j]? μ
      | none => .bad
    | none => .bad
  | _ => M.bad
def D.isX : D → Bool
  | .exn _ _ => true
  | _ => false
/-- no exception in a slot -/
def noEx : Env → Bool
  | [] => true
  | some (.exn _ _) :: _ => false
  | _ :: ρ => noEx ρ
def allNb : Env → Bool
  | [] => true
  | some d :: ρ => d.nb && allNb ρ
  | none :: ρ => allNb ρ
/-- the end of an except suite: the slot is emptied -/
def outX (i : Nat) : Fl → M Fl
  | .nx ρ => guard' (noEx (ρ.set i none)) (M.ret (.nx (ρ.set i none)))
  | .brk ρ => guard' (noEx (ρ.set i none)) (M.ret (.brk (ρ.set i none)))
  | .cont ρ => guard' (noEx (ρ.set i none)) (M.ret (.cont (ρ.set i none)))
  | .rt d => M.ret (.rt d)
/-- try: one statement; except c as slot i -/
def tryK (Φ : Cfg) (c : Str) (i : Nat) (body hs : Env → M Fl) (ρ : Env) : M Fl := guard' (allNb ρ && decide (i < ρ.length)) fun μ => match body ρ μ with
  | .ok fl μ' => .ok fl μ'
  | .bad => .bad
  | .exc k fs μ' => match Φ.xi.sub k c with
    | some true => nox (M.bind (hs (ρ.set i (some (.exn k fs)))) (outX i)) μ'
    | some false => .exc k fs μ'
    | none => .bad
/-- a clause: except c as slot i -/
def caughtK (Φ : Cfg) (c : Str) (i : Nat) (hs : Env → M Fl) (k : Str) (fs : List D) (ρ : Env) (rest : M Fl) : M Fl := match Φ.xi.sub k c with
  | some true => nox (M.bind (hs (ρ.set i (some (.exn k fs)))) (outX i))
  | some false => rest
  | none => M.bad
/-- try: one statement; two clauses -/
def tryK2 (Φ : Cfg) (c1 : Str) (i1 : Nat) (c2 : Str) (i2 : Nat) (body h1 h2 : Env → M Fl) (ρ : Env) : M Fl := guard' (allNb ρ && decide (i1 < ρ.length) && decide (i2 < ρ.length)) fun μ => match body ρ μ with
  | .ok fl μ' => .ok fl μ'
  | .bad => .bad
  | .exc k fs μ' => caughtK Φ c1 i1 h1 k fs ρ (caughtK Φ c2 i2 h2 k fs ρ (M.exc k fs)) μ'
/-- a rule: a pair of lists that are owned -/
def okPr : D → Bool
  | .tup [.lst true x, .lst true y] => decide (x.length < LINE) && decide (y.length < LINE)
  | _ => false
def ruinD (c : Int) : D → Bool
  | .tup ds => match L2.atI ds c with
    | some (.lst true rs) => decide (rs.length < LINE) && rs.all okPr
    | _ => false
  | _ => false
section
variable (Φ : Cfg)
mutual
def exS : S → Env → M Fl
  | .set fr t e, ρ => M.bind (evE Φ e ρ) fun d => match asg t (match fr with | true => d.fz | false => d) ρ with
    | some ρ' => M.ret (.nx ρ')
    | none => M.bad
  | .aug i op e, ρ => match ρ[i]? with
    | some (some x) => M.bind (evE Φ e ρ) fun y => M.bind (augD op x y) fun z => M.ret (.nx (ρ.set i (some z)))
    | _ => M.bad
  | .app i e, ρ => match ρ[i]? with
    | some (some (.lst true ds)) => M.bind (evE Φ e ρ) fun d => guard' (decide (ds.length < LINE)) (M.ret (.nx (ρ.set i (some (.lst true (ds ++ [d]))))))
    | _ => M.bad
  | .appAt i k e, ρ => match ρ[i]? with
    | some (some (.lst true ds)) => M.bind (evE Φ k ρ) fun k => match ixD ds.length k with
      | some j => match ds[j]? with
        | some (.lst true es) => M.bind (evE Φ e ρ) fun d => guard' (decide (es.length < LINE)) (M.ret (.nx (ρ.set i (some (.lst true (ds.set j (.lst true (es ++ [d]))))))))
        | _ => M.bad
      | none => M.bad
    | _ => M.bad
  | .app2 i m1 m2 e, ρ => match ρ[i]? with
    | some (some (.lst true ds)) => match ixD ds.length (.int m1) with
      | some j1 => match ds[j1]? with
        | some (.lst true es) => match ixD es.length (.int m2) with
          | some j2 => match es[j2]? with
            | some (.lst true fs) => M.bind (evE Φ e ρ) fun d => guard' (decide (fs.length < LINE)) (M.ret (.nx (ρ.set i (some (.lst true (ds.set j1 (.lst true (es.set j2 (.lst true (fs ++ [d]))))))))))
            | _ => M.bad
          | none => M.bad
        | _ => M.bad
      | none => M.bad
    | _ => M.bad
  | .put i k e, ρ => match ρ[i]? with
    | some (some x) => M.bind (evE Φ e ρ) fun d => M.bind (evE Φ k ρ) fun k => guard' d.nb (M.bind (putD x k d) fun x' => M.ret (.nx (ρ.set i (some x'))))
    | _ => M.bad
  | .rput a k e, ρ => M.bind (evE Φ e ρ) fun d => M.bind (evE Φ a ρ) fun a => M.bind (evE Φ k ρ) fun k => guard' d.nb (M.bind (setR a k d) fun _ => M.ret (.nx ρ))
  | .raug a k op e, ρ => M.bind (evE Φ a ρ) fun a => M.bind (evE Φ k ρ) fun k => M.bind (getR a k) fun x => M.bind (evE Φ e ρ) fun y => M.bind (augD op x y) fun d => M.bind (setR a k d) fun _ => M.ret (.nx ρ)
  | .expr e, ρ => M.bind (evE Φ e ρ) fun _ => M.ret (.nx ρ)
  | .ret e, ρ => M.bind (evE Φ e ρ) fun d => M.ret (.rt d)
  | .retN, _ => M.ret (.rt .non)
  | .retMv i, ρ => match ρ[i]? with
    | some (some d) => guard' (!d.isX) (M.ret (.rt d))
    | _ => M.bad
  | .ife c a b, ρ => M.bind (M.bind (M.bind (evE Φ c ρ) (opnd (isBrw c))) tests) fun | true => exSs a ρ | false => exSs b ρ
  | .for_ t it b, ρ => M.bind (evI Φ it ρ) fun xs => forL (fun x ρ => match asg t x ρ with
      | some ρ' => exSs b ρ'
      | none => M.bad) xs ρ
  | .while_ c b, ρ => whl (fun ρ => M.bind (M.bind (evE Φ c ρ) (opnd (isBrw c))) tests) (fun ρ => exSs b ρ) WF ρ
  | .nev, _ => M.bad
  | .tryS c i s hs, ρ => tryK Φ c i (fun ρ => exS s ρ) (fun ρ => exSs hs ρ) ρ
  | .try2 c1 i1 h1 c2 i2 h2 s, ρ => tryK2 Φ c1 i1 c2 i2 (fun ρ => exS s ρ) (fun ρ => exSs h1 ρ) (fun ρ => exSs h2 ρ) ρ
  | .retPk k1 n1 k2 i e, ρ => match ρ[i]? with
    | some (some d) => guard' (!d.isX) (M.bind (evE Φ e ρ) fun y => match y with
      | .int 0 => M.ret (.rt (.tup [.str k1, .int n1]))
      | .int 1 => M.ret (.rt (.tup [.str k2, d]))
      | _ => M.bad)
    | _ => M.bad
  | .ruin i c m a, ρ => match ρ[i]? with
    | some (some d) => guard' (ruinD c d && decide (i ≠ m) && decide (i ≠ a) && decide (m ≠ a) && decide (m < ρ.length) && decide (a < ρ.length)) (M.ret (.nx (((ρ.set i none).set m none).set a none)))
    | _ => M.bad
  | .raise c es, ρ => M.bind (evEs Φ es ρ) fun ds => guard' (D.nbL ds) (M.exc c ds)
  | .frz i, ρ => match ρ[i]? with
    | some (some d) => M.ret (.nx (ρ.set i (some d.fz)))
    | _ => M.bad
  | .bend i, ρ => match ρ[i]? with
    | some (some d) => guard' d.ab fun μ => match Φ.fn (Str.ofString "_law_bend") [d.fz] [] with
      | .ok _ _ => .ok (.nx (ρ.set i none)) μ
      | _ => .bad
    | _ => M.bad
  | .pass, ρ => M.ret (.nx ρ)
  | .brk, ρ => M.ret (.brk ρ)
  | .cont, ρ => M.ret (.cont ρ)
def exSs : List S → Env → M Fl
  | [], ρ => M.ret (.nx ρ)
  | s :: ss, ρ => M.bind (exS s ρ) fun
    | .nx ρ' => exSs ss ρ'
    | f => M.ret f
end
end
/-- what _law_bend asks of its value: that each part is gone through (the levels suffice) -/
def bendL (Φ : Cfg) : List D → M D
  | [] => M.ret .non
  | x :: xs => M.bind (Φ.fn (Str.ofString "_law_bend") [x]) fun _ => bendL Φ xs
def bendP (Φ : Cfg) : List D → M D
  | [.lst _ xs] => bendL Φ xs
  | [.tup xs] => bendL Φ xs
  | [_] => M.ret .non
  | _ => M.bad
/-! ### a program -/
structure Prog where
  tab : Table
  prim : List (Str × (Cfg → List D → M D))
  gl : List (Str × D)
  xi : XI
def start (n : Nat) (ds : List D) : Env := ds.map some ++ List.replicate (n - ds.length) none
def endFl : Fl → M D
  | .rt d => M.ret d
  | .nx _ => M.ret .non
  | _ => M.bad
def runFn (Φ : Cfg) (fn : Fn) (ds : List D) : M D := guard' (decide (ds.length = fn.np)) (M.bind (exSs Φ fn.body (start fn.ns ds)) endFl)
def run (p : Prog) : Nat → Str → List D → M D
  | 0, _, _ => M.bad
  | k + 1, f, ds => match p.prim.lookup f with
    | some g => g ⟨run p k, fun x => p.gl.lookup x, p.xi⟩ ds
    | none => match p.tab.lookup f with
      | some fn => runFn ⟨run p k, fun x => p.gl.lookup x, p.xi⟩ fn ds
      | none => M.bad
end Vf

/-! V1 -/
set_option autoImplicit false
set_option linter.all false
set_option Elab.async false
set_option maxHeartbeats 1000000
/-! V1: what a value stands for in the heap. -/
namespace Vf
open PySem PySem.Spec PyProof.Rows L2

/-- where one stands: the heap, what may be written, the shared objects -/
structure Sx where
  H : Hp
  O : Addr → Prop
  ι : List Addr

/-- a dict of the module -/
def KD (K : PySem.W.Frag) (w : World) (a : Addr) (ks : List Key) (vs : List V) : Prop :=
  ∃ es n, KDict K w a es n ∧ ∀ z : Str, match valV (ks.zip vs) (.inr z : Key) with
    | some v => ∃ u, PySem.W.nsIn K a z = some (some u) ∧ RelV v u
    | none => PySem.W.nsIn K a z = some none
/-- a list of the module -/
def KLst (K : PySem.W.Frag) (a : Addr) (vs : List V) : Prop := ∃ (o : Obj) (its : Array Value) (n : Nat), K.lookup a = some o ∧ o.cls = .type "list" ∧ o.dict = none ∧ o.data = .seq its n ∧ its.size ≤ sizeLine ∧ Vals vs its.toList
def RdL (K : PySem.W.Frag) (s : Sx) (a : Addr) (vs : List V) : Prop := (Rd s.H a (.lst vs) ∧ a ∉ s.ι) ∨ KLst K a vs
def FzL (K : PySem.W.Frag) (s : Sx) (a : Addr) (vs : List V) : Prop := (Rd s.H a (.lst vs) ∧ ¬ s.O a) ∨ KLst K a vs
theorem KLst.sq {K : PySem.W.Frag} {H : Hp} {a : Addr} {vs : List V} (h : KLst K a vs) : SqL K H a vs := .inr h
theorem RdL.sq {K : PySem.W.Frag} {s : Sx} {a : Addr} {vs : List V} (h : RdL K s a vs) : SqL K s.H a vs := h.elim (fun z => .inl z.1) KLst.sq
theorem FzL.sq {K : PySem.W.Frag} {s : Sx} {a : Addr} {vs : List V} (h : FzL K s a vs) : SqL K s.H a vs := h.elim (fun z => .inl z.1) KLst.sq
def RdD (s : Sx) (a : Addr) (ks : List Key) (vs : List V) : Prop := Rd s.H a (.dK (ks.zip vs)) ∧ a ∉ s.ι
def FzD (K : PySem.W.Frag) (w : World) (s : Sx) (a : Addr) (ks : List Key) (vs : List V) : Prop := (Rd s.H a (.dK (ks.zip vs)) ∧ ¬ s.O a) ∨ KD K w a ks vs

section
variable (K : PySem.W.Frag) (w : World)
mutual
def Rep (s : Sx) : D → V → List Addr → Prop
  | .non, v, o => v = .non ∧ o = []
  | .bl b, v, o => v = .bl b ∧ o = []
  | .int i, v, o => v = .int i ∧ o = []
  | .str x, v, o => v = .str x ∧ o = []
  | .tup ds, v, o => ∃ a vs, v = .ref a ∧ SqT K s.H a vs ∧ RepL s ds vs o
  | .lst true ds, v, o => ∃ a vs o', v = .ref a ∧ s.H a = some (.lst vs) ∧ o = a :: o' ∧ RepL s ds vs o'
  | .lst false ds, v, o => ∃ a vs, v = .ref a ∧ FzL K s a vs ∧ o = [] ∧ RepL s ds vs []
  | .dct true ks ds, v, o => ∃ a vs, v = .ref a ∧ s.H a = some (.dK (ks.zip vs)) ∧ o = [a] ∧ ks.length = ds.length ∧ RepL s ds vs []
  | .dct false ks ds, v, o => ∃ a vs, v = .ref a ∧ FzD K w s a ks vs ∧ o = [] ∧ ks.length = ds.length ∧ RepL s ds vs []
  | .ref n, v, o => ∃ a, s.ι[n]? = some a ∧ v = .ref a ∧ o = []
  | .exn _ _, _, _ => False
def RepL (s : Sx) : List D → List V → List Addr → Prop
  | [], vs, o => vs = [] ∧ o = []
  | d :: ds, vs, o => ∃ v vs' o1 o2, vs = v :: vs' ∧ o = o1 ++ o2 ∧ Rep s d v o1 ∧ RepL s ds vs' o2
end
/-- an operand: its parts are frozen -/
def RepB (s : Sx) : D → V → Prop
  | .lst _ ds, v => ∃ a vs, v = .ref a ∧ RdL K s a vs ∧ RepL K w s ds vs []
  | .dct true ks ds, v => ∃ a vs, v = .ref a ∧ RdD s a ks vs ∧ ks.length = ds.length ∧ RepL K w s ds vs []
  | d, v => Rep K w s d v []
end

/-- frozen things stay -/
structure Kp (s s' : Sx) : Prop where
  mt : ∀ a, s.O a → Mut (s.H a)
  ext : ∀ a u, s.H a = some u → ¬ s.O a → s'.H a = some u
  dn : ∀ a, s'.O a → s.O a ∨ s.H a = none
  pre : ∃ t, s'.ι = s.ι ++ t ∧ ∀ a ∈ t, s.H a = none
section
variable {K : PySem.W.Frag} {w : World} {s s' : Sx}
theorem not_mut_tup {vs : List V} : ¬ Mut (some (.tup vs)) := fun z => z
theorem not_mut_frz {o : Obj} {u : HO} : ¬ Mut (some (.frz o u)) := fun z => z
theorem Kp.sqT (k : Kp s s') {a : Addr} {vs : List V} (h : SqT K s.H a vs) : SqT K s'.H a vs := by
  rcases h with (h | ⟨o, h⟩) | h
  · exact .inl (.inl (k.ext _ _ h fun q => by have := k.mt a q; rw [h] at this; exact this))
  · exact .inl (.inr ⟨o, k.ext _ _ h fun q => by have := k.mt a q; rw [h] at this; exact this⟩)
  · exact .inr h
theorem Kp.live (k : Kp s s') {a : Addr} {u : HO} (h : s.H a = some u) (n : ¬ s.O a) : ¬ s'.O a := fun q => by
  rcases k.dn a q with z | z
  · exact n z
  · rw [h] at z; cases z
theorem Kp.rd (k : Kp s s') {a : Addr} {u : HO} (h : Rd s.H a u) (n : ¬ s.O a) : Rd s'.H a u ∧ ¬ s'.O a := by
  rcases h with h | ⟨o, h⟩
  · exact ⟨.inl (k.ext _ _ h n), k.live h n⟩
  · exact ⟨.inr ⟨o, k.ext _ _ h n⟩, k.live h n⟩
theorem Kp.fzL (k : Kp s s') {a : Addr} {vs : List V} (h : FzL K s a vs) : FzL K s' a vs := h.imp (fun h => k.rd h.1 h.2) id
theorem Kp.fzD (k : Kp s s') {a : Addr} {ks : List Key} {vs : List V} (h : FzD K w s a ks vs) : FzD K w s' a ks vs := by
  rcases h with ⟨h, n⟩ | h
  · exact .inl (k.rd h n)
  · exact .inr h
theorem Kp.ref (k : Kp s s') {n : Nat} {a : Addr} (h : s.ι[n]? = some a) : s'.ι[n]? = some a := by
  obtain ⟨t, e, _⟩ := k.pre
  rw [e, List.getElem?_append_left (List.getElem?_eq_some_iff.mp h).1]
  exact h
mutual
theorem Rep.keep (k : Kp s s') : ∀ (d : D) (v : V) (o : List Addr), Rep K w s d v o → (∀ a ∈ o, s'.H a = s.H a) → Rep K w s' d v o
  | .non, _, _, h, _ => h
  | .bl _, _, _, h, _ => h
  | .int _, _, _, h, _ => h
  | .str _, _, _, h, _ => h
  | .tup ds, v, o, h, ho => by
    obtain ⟨a, vs, e, q, r⟩ := h
    exact ⟨a, vs, e, k.sqT q, RepL.keep k ds vs o r ho⟩
  | .lst true ds, v, o, h, ho => by
    obtain ⟨a, vs, o', e, q, eo, r⟩ := h
    subst eo
    exact ⟨a, vs, o', e, (ho a List.mem_cons_self).trans q, rfl, RepL.keep k ds vs o' r fun b hb => ho b (List.mem_cons_of_mem _ hb)⟩
  | .lst false ds, v, o, h, ho => by
    obtain ⟨a, vs, e, q, eo, r⟩ := h
    exact ⟨a, vs, e, k.fzL q, eo, RepL.keep k ds vs [] r fun _ z => nomatch z⟩
  | .dct true ks ds, v, o, h, ho => by
    obtain ⟨a, vs, e, q, eo, l, r⟩ := h
    subst eo
    exact ⟨a, vs, e, (ho a List.mem_cons_self).trans q, rfl, l, RepL.keep k ds vs [] r fun _ z => nomatch z⟩
  | .dct false ks ds, v, o, h, ho => by
    obtain ⟨a, vs, e, q, eo, l, r⟩ := h
    exact ⟨a, vs, e, k.fzD q, eo, l, RepL.keep k ds vs [] r fun _ z => nomatch z⟩
  | .ref n, v, o, h, _ => by
    obtain ⟨a, q, e, eo⟩ := h
    exact ⟨a, k.ref q, e, eo⟩
  | .exn _ _, _, _, h, _ => h.elim
theorem RepL.keep (k : Kp s s') : ∀ (ds : List D) (vs : List V) (o : List Addr), RepL K w s ds vs o → (∀ a ∈ o, s'.H a = s.H a) → RepL K w s' ds vs o
  | [], _, _, h, _ => h
  | d :: ds, vs, o, h, ho => by
    obtain ⟨v, vs', o1, o2, e, eo, r1, r2⟩ := h
    subst eo
    exact ⟨v, vs', o1, o2, e, rfl, Rep.keep k d v o1 r1 fun a ha => ho a (List.mem_append_left _ ha), RepL.keep k ds vs' o2 r2 fun a ha => ho a (List.mem_append_right _ ha)⟩
end
theorem RepL.len : ∀ {ds : List D} {vs : List V} {o : List Addr}, RepL K w s ds vs o → ds.length = vs.length
  | [], _, _, h => by
    have e := h.1
    rw [e]
    rfl
  | d :: ds, vs, o, h => by
    obtain ⟨v, vs', o1, o2, e, eo, r1, r2⟩ := h
    rw [e, List.length_cons, List.length_cons, RepL.len r2]
theorem RepL.nil_of {vs : List V} {o : List Addr} (h : RepL K w s [] vs o) : vs = [] ∧ o = [] := h
theorem RepL.append : ∀ {ds es : List D} {vs us : List V} {o p : List Addr}, RepL K w s ds vs o → RepL K w s es us p → RepL K w s (ds ++ es) (vs ++ us) (o ++ p)
  | [], _, _, _, _, _, h, q => by
    obtain ⟨rfl, rfl⟩ := h
    exact q
  | d :: ds, es, vs, us, o, p, h, q => by
    obtain ⟨v, vs', o1, o2, e, eo, r1, r2⟩ := h
    subst e eo
    exact ⟨v, vs' ++ us, o1, o2 ++ p, rfl, by rw [List.append_assoc], r1, RepL.append r2 q⟩
theorem RepL.at_ : ∀ {ds : List D} {vs : List V} {i : Nat} {d : D}, RepL K w s ds vs [] → ds[i]? = some d → ∃ v, vs[i]? = some v ∧ Rep K w s d v []
  | [], _, _, _, _, e => by simp at e
  | d :: ds, vs, 0, d', h, e => by
    obtain ⟨v, vs', o1, o2, ev, eo, r1, r2⟩ := h
    obtain ⟨rfl, rfl⟩ := List.append_eq_nil_iff.mp eo.symm
    simp at e
    subst e ev
    exact ⟨v, rfl, r1⟩
  | d :: ds, vs, i + 1, d', h, e => by
    obtain ⟨v, vs', o1, o2, ev, eo, r1, r2⟩ := h
    obtain ⟨rfl, rfl⟩ := List.append_eq_nil_iff.mp eo.symm
    subst ev
    obtain ⟨u, h1, h2⟩ := RepL.at_ (i := i) r2 (by simpa using e)
    exact ⟨u, by simpa using h1, h2⟩
theorem RepL.cons_of {d : D} {ds : List D} {vs : List V} (h : RepL K w s (d :: ds) vs []) : ∃ v vs', vs = v :: vs' ∧ Rep K w s d v [] ∧ RepL K w s ds vs' [] := by
  obtain ⟨v, vs', o1, o2, ev, eo, r1, r2⟩ := h
  obtain ⟨rfl, rfl⟩ := List.append_eq_nil_iff.mp eo.symm
  exact ⟨v, vs', ev, r1, r2⟩
theorem RepL.cons {d : D} {ds : List D} {v : V} {vs : List V} (h : Rep K w s d v []) (q : RepL K w s ds vs []) : RepL K w s (d :: ds) (v :: vs) [] := ⟨v, vs, [], [], rfl, rfl, h, q⟩
/-! the bits are none: nothing is owned -/
mutual
theorem Rep.nb : ∀ (d : D) (v : V) (o : List Addr), Rep K w s d v o → d.nb = true → o = []
  | .non, _, _, h, _ => h.2
  | .bl _, _, _, h, _ => h.2
  | .int _, _, _, h, _ => h.2
  | .str _, _, _, h, _ => h.2
  | .tup ds, v, o, h, n => by
    obtain ⟨a, vs, e, q, r⟩ := h
    exact RepL.nb ds vs o r n
  | .lst true ds, v, o, h, n => by simp [D.nb] at n
  | .lst false ds, v, o, h, n => by
    obtain ⟨a, vs, e, q, eo, r⟩ := h
    exact eo
  | .dct true ks ds, v, o, h, n => by simp [D.nb] at n
  | .dct false ks ds, v, o, h, n => by
    obtain ⟨a, vs, e, q, eo, l, r⟩ := h
    exact eo
  | .ref n, v, o, h, _ => by
    obtain ⟨a, q, e, eo⟩ := h
    exact eo
  | .exn _ _, _, _, h, _ => h.elim
theorem RepL.nb : ∀ (ds : List D) (vs : List V) (o : List Addr), RepL K w s ds vs o → D.nbL ds = true → o = []
  | [], _, _, h, _ => h.2
  | d :: ds, vs, o, h, n => by
    obtain ⟨v, vs', o1, o2, e, eo, r1, r2⟩ := h
    have n' : (d.nb && D.nbL ds) = true := n
    obtain ⟨n1, n2⟩ := Bool.and_eq_true_iff.mp n'
    rw [eo, Rep.nb d v o1 r1 n1, RepL.nb ds vs' o2 r2 n2]
    rfl
end
/-- it is frozen: what it owned may be written no more -/
def Sx.less (s : Sx) (o : List Addr) : Sx := { s with O := fun a => s.O a ∧ a ∉ o }
theorem FzL.less {o : List Addr} {a : Addr} {vs : List V} (h : FzL K s a vs) : FzL K (s.less o) a vs := h.imp (fun h => ⟨h.1, fun q => h.2 q.1⟩) id
theorem FzD.less {o : List Addr} {a : Addr} {ks : List Key} {vs : List V} (h : FzD K w s a ks vs) : FzD K w (s.less o) a ks vs := by
  rcases h with ⟨h, n⟩ | h
  · exact .inl ⟨h, fun q => n q.1⟩
  · exact .inr h
mutual
theorem Rep.fz {p : List Addr} : ∀ (d : D) (v : V) (o : List Addr), Rep K w s d v o → (∀ a ∈ o, a ∈ p) → Rep K w (s.less p) d.fz v []
  | .non, _, _, h, _ => ⟨h.1, rfl⟩
  | .bl _, _, _, h, _ => ⟨h.1, rfl⟩
  | .int _, _, _, h, _ => ⟨h.1, rfl⟩
  | .str _, _, _, h, _ => ⟨h.1, rfl⟩
  | .tup ds, v, o, h, ho => by
    obtain ⟨a, vs, e, q, r⟩ := h
    exact ⟨a, vs, e, q, RepL.fz ds vs o r ho⟩
  | .lst true ds, v, o, h, ho => by
    obtain ⟨a, vs, o', e, q, eo, r⟩ := h
    subst eo
    exact ⟨a, vs, e, .inl ⟨.inl q, fun z => z.2 (ho a List.mem_cons_self)⟩, rfl, RepL.fz ds vs o' r fun b hb => ho b (List.mem_cons_of_mem _ hb)⟩
  | .lst false ds, v, o, h, ho => by
    obtain ⟨a, vs, e, q, eo, r⟩ := h
    exact ⟨a, vs, e, q.less, rfl, RepL.fz ds vs [] r fun _ z => nomatch z⟩
  | .dct true ks ds, v, o, h, ho => by
    obtain ⟨a, vs, e, q, eo, l, r⟩ := h
    subst eo
    refine ⟨a, vs, e, .inl ⟨.inl q, fun z => z.2 (ho a List.mem_cons_self)⟩, rfl, ?_, RepL.fz ds vs [] r fun _ z => nomatch z⟩
    rw [l, (RepL.fz (p := p) ds vs [] r fun _ z => nomatch z).len, r.len]
  | .dct false ks ds, v, o, h, ho => by
    obtain ⟨a, vs, e, q, eo, l, r⟩ := h
    refine ⟨a, vs, e, q.less, rfl, ?_, RepL.fz ds vs [] r fun _ z => nomatch z⟩
    rw [l, (RepL.fz (p := p) ds vs [] r fun _ z => nomatch z).len, r.len]
  | .ref n, v, o, h, _ => by
    obtain ⟨a, q, e, eo⟩ := h
    exact ⟨a, q, e, rfl⟩
  | .exn _ _, _, _, h, _ => h.elim
theorem RepL.fz {p : List Addr} : ∀ (ds : List D) (vs : List V) (o : List Addr), RepL K w s ds vs o → (∀ a ∈ o, a ∈ p) → RepL K w (s.less p) (D.fzL ds) vs []
  | [], _, _, h, _ => ⟨h.1, rfl⟩
  | d :: ds, vs, o, h, ho => by
    obtain ⟨v, vs', o1, o2, e, eo, r1, r2⟩ := h
    subst eo
    exact ⟨v, vs', [], [], e, rfl, Rep.fz d v o1 r1 fun a ha => ho a (List.mem_append_left _ ha), RepL.fz ds vs' o2 r2 fun a ha => ho a (List.mem_append_right _ ha)⟩
end
theorem FzL.rd {a : Addr} {vs : List V} (h : FzL K s a vs) (sub : ∀ a ∈ s.ι, s.O a) : RdL K s a vs := h.imp (fun h => ⟨h.1, fun q => h.2 (sub a q)⟩) id
/-- a frozen value is an operand -/
theorem Rep.opd {d : D} {v : V} (h : Rep K w s d v []) (sub : ∀ a ∈ s.ι, s.O a) : RepB K w s d v := by
  cases d with
  | lst b ds =>
    cases b with
    | true => obtain ⟨a, vs, o', e, q, eo, r⟩ := h; cases eo
    | false => obtain ⟨a, vs, e, q, eo, r⟩ := h; exact ⟨a, vs, e, q.rd sub, r⟩
  | dct b ks ds =>
    cases b with
    | true => obtain ⟨a, vs, e, q, eo, l, r⟩ := h; cases eo
    | false => exact h
  | _ => exact h
/-- an owned or frozen value whose parts are frozen is an operand -/
theorem Rep.opdB {d : D} {v : V} {o : List Addr} (h : Rep K w s d v o) (n : d.inb = true) (sub : ∀ a ∈ s.ι, s.O a) (ho : ∀ a ∈ o, a ∉ s.ι) : RepB K w s d v := by
  cases d with
  | lst b ds =>
    cases b with
    | true =>
      obtain ⟨a, vs, o', e, q, eo, r⟩ := h
      subst eo
      have := RepL.nb ds vs o' r n
      subst this
      exact ⟨a, vs, e, .inl ⟨.inl q, ho a List.mem_cons_self⟩, r⟩
    | false => obtain ⟨a, vs, e, q, eo, r⟩ := h; exact ⟨a, vs, e, q.rd sub, r⟩
  | dct b ks ds =>
    cases b with
    | true =>
      obtain ⟨a, vs, e, q, eo, l, r⟩ := h
      subst eo
      exact ⟨a, vs, e, ⟨.inl q, ho a List.mem_cons_self⟩, l, r⟩
    | false =>
      obtain ⟨a, vs, e, q, eo, l, r⟩ := h
      exact ⟨a, vs, e, q, rfl, l, r⟩
  | tup ds =>
    have := Rep.nb _ v o h n
    subst this
    exact h
  | non => have := Rep.nb _ v o h n; subst this; exact h
  | bl _ => have := Rep.nb _ v o h n; subst this; exact h
  | int _ => have := Rep.nb _ v o h n; subst this; exact h
  | str _ => have := Rep.nb _ v o h n; subst this; exact h
  | ref _ => have := Rep.nb _ v o h n; subst this; exact h
  | exn _ _ => exact h.elim
end
end Vf

/-! V2 -/
set_option autoImplicit false
set_option linter.all false
set_option Elab.async false
set_option maxHeartbeats 1000000
/-! V2: how the heap goes on; readings by the evaluator. -/
namespace Vf
open PySem PySem.Spec PyProof.Rows L2

/-- the heap goes on: what is tracked stays, but the shared objects -/
structure Ev (s s' : Sx) : Prop where
  ext : ∀ a u, s.H a = some u → a ∉ s.ι → s'.H a = some u
  pre : ∃ t, s'.ι = s.ι ++ t ∧ ∀ a ∈ t, s.H a = none
  up : ∀ a, s.O a → s'.O a
  dn : ∀ a, s'.O a → s.O a ∨ s.H a = none
  live : ∀ a, s'.H a = none → s.H a = none
theorem Ev.refl (s : Sx) : Ev s s := ⟨fun _ _ h _ => h, ⟨[], by simp, fun _ z => nomatch z⟩, fun _ h => h, fun _ h => .inl h, fun _ h => h⟩
theorem Ev.trans {s s1 s2 : Sx} (a : Ev s s1) (b : Ev s1 s2) : Ev s s2 := by
  obtain ⟨t, e, f⟩ := a.pre
  obtain ⟨t', e', f'⟩ := b.pre
  refine ⟨fun x u h n => b.ext x u (a.ext x u h n) fun q => ?_, ⟨t ++ t', by rw [e', e, List.append_assoc], fun x hx => ?_⟩, fun x h => b.up x (a.up x h), fun x h => ?_, fun x h => a.live x (b.live x h)⟩
  · rw [e] at q
    rcases List.mem_append.mp q with q | q
    · exact n q
    · rw [f x q] at h; cases h
  · rcases List.mem_append.mp hx with q | q
    · exact f x q
    · exact a.live x (f' x q)
  · rcases b.dn x h with q | q
    · exact a.dn x q
    · exact .inr (a.live x q)

section
variable (K : PySem.W.Frag) (w : World)
/-- the world: what may be written is a list or the like; the shared objects are as told -/
structure Wd (s : Sx) (μ : Sto) : Prop where
  mt : ∀ a, s.O a → Mut (s.H a)
  sub : ∀ a ∈ s.ι, s.O a
  nd : s.ι.Nodup
  len : s.ι.length = μ.length
  at_ : ∀ (n : Nat) (a : Addr) (ds : List D), s.ι[n]? = some a → μ[n]? = some ds → ∃ vs, s.H a = some (.lst vs) ∧ RepL K w s ds vs []
/-- a caught exception, at a; its class, its fields, its dict -/
structure XH where
  a : Addr
  c : Str
  fs : List D
  ns : List Str
  dd : Option Addr
def XFld (s : Sx) (h : XH) : Prop := h.ns = [] ∨ ∃ d fv vs, h.dd = some d ∧ s.H d = some (.xd fv) ∧ RepL K w s h.fs vs [] ∧ ∀ (i : Nat) (f : Str) (v : V), h.ns[i]? = some f → vs[i]? = some v → fv.lookup f = some v
/-- what stands in a slot -/
def RepX (xh : Option XH) (s : Sx) (d : D) (v : V) (o : List Addr) : Prop := match d with
  | .exn c fs => ∃ h, xh = some h ∧ v = .ref h.a ∧ o = [] ∧ h.c = c ∧ h.fs = fs ∧ XFld K w s h
  | d => Rep K w s d v o
/-- the slots -/
structure RepS (xh : Option XH) (s : Sx) (ρ : Env) (σ : L2.St) (own : Nat → List Addr) : Prop where
  at_ : ∀ (i : Nat) (d : D), ρ[i]? = some (some d) → ∃ v, σ[i]? = some (some v) ∧ RepX K w xh s d v (own i)
  ow : ∀ (i : Nat) (a : Addr), a ∈ own i → s.O a ∧ a ∉ s.ι
  nd : ∀ i : Nat, (own i).Nodup
  ap : ∀ (i j : Nat) (a : Addr), i ≠ j → a ∈ own i → a ∉ own j
  len : ρ.length = σ.length
/-- behind an expression -/
structure Post (s s' : Sx) (μ : Sto) (d : D) (v : V) (o : List Addr) : Prop where
  ev : Ev s s'
  wd : Wd K w s' μ
  rep : Rep K w s' d v o
  nd : o.Nodup
  ow : ∀ a ∈ o, s'.O a ∧ ¬ s.O a ∧ a ∉ s'.ι
structure PostB (s s' : Sx) (μ : Sto) (d : D) (v : V) : Prop where
  ev : Ev s s'
  wd : Wd K w s' μ
  rep : RepB K w s' d v
end
section
variable {K : PySem.W.Frag} {w : World} {s s' : Sx} {μ μ' : Sto}
theorem Ev.kp (e : Ev s s') (W : Wd K w s μ) : Kp s s' := ⟨W.mt, fun a u h n => e.ext a u h fun q => n (W.sub a q), e.dn, e.pre⟩
theorem Ev.rdL (e : Ev s s') {a : Addr} {vs : List V} (h : RdL K s a vs) : RdL K s' a vs := by
  refine h.imp (fun h => ?_) id
  obtain ⟨h, n⟩ := h
  obtain ⟨t, et, ft⟩ := e.pre
  have key : ∀ u, s.H a = some u → s'.H a = some u ∧ a ∉ s'.ι := fun u hu => ⟨e.ext a u hu n, fun q => by
    rw [et] at q
    rcases List.mem_append.mp q with q | q
    · exact n q
    · rw [ft a q] at hu; cases hu⟩
  rcases h with h | ⟨o, h⟩
  · exact ⟨.inl (key _ h).1, (key _ h).2⟩
  · exact ⟨.inr ⟨o, (key _ h).1⟩, (key _ h).2⟩
theorem Ev.rdD (e : Ev s s') {a : Addr} {ks : List Key} {vs : List V} (h : RdD s a ks vs) : RdD s' a ks vs := by
  obtain ⟨h, n⟩ := h
  obtain ⟨t, et, ft⟩ := e.pre
  have key : ∀ u, s.H a = some u → s'.H a = some u ∧ a ∉ s'.ι := fun u hu => ⟨e.ext a u hu n, fun q => by
    rw [et] at q
    rcases List.mem_append.mp q with q | q
    · exact n q
    · rw [ft a q] at hu; cases hu⟩
  rcases h with h | ⟨o, h⟩
  · exact ⟨.inl (key _ h).1, (key _ h).2⟩
  · exact ⟨.inr ⟨o, (key _ h).1⟩, (key _ h).2⟩
theorem Ev.repL (e : Ev s s') (W : Wd K w s μ) {ds : List D} {vs : List V} (h : RepL K w s ds vs []) : RepL K w s' ds vs [] := RepL.keep (e.kp W) ds vs [] h fun _ z => nomatch z
theorem Ev.rep0 (e : Ev s s') (W : Wd K w s μ) {d : D} {v : V} (h : Rep K w s d v []) : Rep K w s' d v [] := Rep.keep (e.kp W) d v [] h fun _ z => nomatch z
theorem Ev.own {o : List Addr} (e : Ev s s') (ho : ∀ a ∈ o, Mut (s.H a) ∧ a ∉ s.ι) : ∀ a ∈ o, s'.H a = s.H a := fun a ha => by
  obtain ⟨m, n⟩ := ho a ha
  cases q : s.H a with
  | none => rw [q] at m; exact m.elim
  | some u => exact e.ext a u q n
theorem Ev.rep (e : Ev s s') (W : Wd K w s μ) {d : D} {v : V} {o : List Addr} (h : Rep K w s d v o) (ho : ∀ a ∈ o, s.O a ∧ a ∉ s.ι) : Rep K w s' d v o :=
  Rep.keep (e.kp W) d v o h (e.own fun a ha => ⟨W.mt a (ho a ha).1, (ho a ha).2⟩)
theorem Ev.repLo (e : Ev s s') (W : Wd K w s μ) {d : List D} {v : List V} {o : List Addr} (h : RepL K w s d v o) (ho : ∀ a ∈ o, s.O a ∧ a ∉ s.ι) : RepL K w s' d v o :=
  RepL.keep (e.kp W) d v o h (e.own fun a ha => ⟨W.mt a (ho a ha).1, (ho a ha).2⟩)
theorem Ev.repB (e : Ev s s') (W : Wd K w s μ) {d : D} {v : V} (h : RepB K w s d v) : RepB K w s' d v := by
  cases d with
  | lst b ds => obtain ⟨a, vs, ev, q, r⟩ := h; exact ⟨a, vs, ev, e.rdL q, e.repL W r⟩
  | dct b ks ds =>
    cases b with
    | true => obtain ⟨a, vs, ev, q, l, r⟩ := h; exact ⟨a, vs, ev, e.rdD q, l, e.repL W r⟩
    | false => exact e.rep0 W h
  | _ => exact e.rep0 W h
theorem Ev.noIn (e : Ev s s') {a : Addr} (h : s.H a ≠ none) (n : a ∉ s.ι) : a ∉ s'.ι := fun q => by
  obtain ⟨t, et, ft⟩ := e.pre
  rw [et] at q
  rcases List.mem_append.mp q with q | q
  · exact n q
  · exact h (ft a q)
theorem mut_ne {o : Option HO} (h : Mut o) : o ≠ none := fun z => by rw [z] at h; exact h
theorem Ev.ownS (e : Ev s s') (W : Wd K w s μ) {o : List Addr} (ho : ∀ a ∈ o, s.O a ∧ a ∉ s.ι) : ∀ a ∈ o, s'.O a ∧ a ∉ s'.ι := fun a ha =>
  ⟨e.up a (ho a ha).1, e.noIn (mut_ne (W.mt a (ho a ha).1)) (ho a ha).2⟩
theorem RepX.of {xh : Option XH} {d : D} {v : V} {o : List Addr} (h : Rep K w s d v o) : RepX K w xh s d v o := by
  cases d with
  | exn c fs => exact h.elim
  | _ => exact h
theorem RepX.rep {xh : Option XH} {d : D} {v : V} {o : List Addr} (h : RepX K w xh s d v o) (n : ∀ c fs, d ≠ .exn c fs) : Rep K w s d v o := by
  cases d with
  | exn c fs => exact absurd rfl (n c fs)
  | _ => exact h
theorem RepX.nbR {xh : Option XH} {d : D} {v : V} {o : List Addr} (h : RepX K w xh s d v o) (n : d.nb = true) : Rep K w s d v o := h.rep fun c fs e => by rw [e] at n; cases n
theorem RepX.inbR {xh : Option XH} {d : D} {v : V} {o : List Addr} (h : RepX K w xh s d v o) (n : d.inb = true) : Rep K w s d v o := h.rep fun c fs e => by rw [e] at n; cases n
theorem XFld.keep {h : XH} (k : Kp s s') (f : XFld K w s h) : XFld K w s' h := by
  rcases f with f | ⟨d, fv, vs, e, q, r, l⟩
  · exact .inl f
  · exact .inr ⟨d, fv, vs, e, k.ext _ _ q fun z => by have := k.mt d z; rw [q] at this; exact this, RepL.keep k _ _ _ r (fun _ z => nomatch z), l⟩
theorem RepX.keep (k : Kp s s') {xh : Option XH} {d : D} {v : V} {o : List Addr} (h : RepX K w xh s d v o) (ho : ∀ a ∈ o, s'.H a = s.H a) : RepX K w xh s' d v o := by
  cases d with
  | exn c fs =>
    obtain ⟨h, a, b, c', d, e, f⟩ := h
    exact ⟨h, a, b, c', d, e, f.keep k⟩
  | _ => exact Rep.keep k _ _ _ h ho
theorem RepS.step {xh : Option XH} {ρ : Env} {σ : L2.St} {own : Nat → List Addr} (r : RepS K w xh s ρ σ own) (e : Ev s s') (W : Wd K w s μ) : RepS K w xh s' ρ σ own :=
  ⟨fun i d h => by
    obtain ⟨v, h1, h2⟩ := r.at_ i d h
    exact ⟨v, h1, RepX.keep (e.kp W) h2 (e.own fun a ha => ⟨W.mt a (r.ow i a ha).1, (r.ow i a ha).2⟩)⟩, fun i a ha => e.ownS W (fun b hb => r.ow i b hb) a ha, r.nd, r.ap, r.len⟩
/-- what was owned is frozen -/
theorem Wd.less {o : List Addr} (W : Wd K w s μ) (ho : ∀ a ∈ o, a ∉ s.ι) : Wd K w (s.less o) μ := by
  have k : Kp s (s.less o) := ⟨W.mt, fun _ _ h _ => h, fun a h => .inl h.1, ⟨[], by simp [Sx.less], fun _ z => nomatch z⟩⟩
  exact ⟨fun a h => W.mt a h.1, fun a h => ⟨W.sub a h, fun q => ho a q h⟩, W.nd, W.len, fun n a ds h1 h2 => by
    obtain ⟨vs, h3, h4⟩ := W.at_ n a ds h1 h2
    exact ⟨vs, h3, RepL.keep k ds vs [] h4 fun _ z => nomatch z⟩⟩
theorem Ev.less {o : List Addr} (e : Ev s s') (ho : ∀ a ∈ o, ¬ s.O a) : Ev s (s'.less o) := ⟨e.ext, e.pre, fun a h => ⟨e.up a h, fun q => ho a q h⟩, fun a h => e.dn a h.1, e.live⟩
theorem Post.toB {d : D} {v : V} {o : List Addr} (p : Post K w s s' μ d v o) : PostB K w s (s'.less o) μ d.fz v := by
  have W := p.wd.less fun a ha => (p.ow a ha).2.2
  exact ⟨p.ev.less fun a ha => (p.ow a ha).2.1, W, Rep.opd (Rep.fz d v o p.rep fun a ha => ha) W.sub⟩
end

/-! ### the context -/
structure Ctx where
  X : Cx
  W : WX
  Φ : Cfg
  s0 : Sx
  /-- the fields of an exception's class -/
  cls : Str → Option (List Str)
  xh : Option XH
abbrev Ctx.K (C : Ctx) : PySem.W.Frag := C.X.K
abbrev Ctx.w (C : Ctx) : World := C.X.w
/-- an exception of the class c, with these fields -/
def XRep (K : PySem.W.Frag) (w : World) (mg : Str → Option Value) (cls : Str → Option (List Str)) (s : Sx) (c : Str) (fs : List D) (Cl : Value) (dd : Option Addr) : Prop :=
  ∃ Ca ns, Cl = .ref Ca ∧ mg c = some (.ref Ca) ∧ cls c = some ns ∧ ns.length = fs.length ∧ (ns = [] → dd = none) ∧
    (ns ≠ [] → ∃ d fv, dd = some d ∧ s.H d = some (.xd fv) ∧ ∀ (i : Nat) (f : Str) (x : D), ns[i]? = some f → fs[i]? = some x → ∃ v, fv.lookup f = some v ∧ Rep K w s x v [])
def XRes (C : Ctx) (σ : L2.St) (c : Str) (fs : List D) (μ : Sto) : Prop :=
  ∀ s' Cl dd, Ev C.s0 s' → Wd C.K C.w s' μ → XRep C.K C.w C.X.mg C.cls s' c fs Cl dd → C.W Cl dd σ s'.H
structure Pre (C : Ctx) (s : Sx) (ρ : Env) (σ : L2.St) (own : Nat → List Addr) (μ : Sto) : Prop where
  r : RepS C.K C.w C.xh s ρ σ own
  wd : Wd C.K C.w s μ
  ev : Ev C.s0 s
  fr : ∀ i a, a ∈ own i → ¬ C.s0.O a
theorem Pre.step {C : Ctx} {s s' : Sx} {ρ : Env} {σ : L2.St} {own : Nat → List Addr} {μ μ' : Sto} (p : Pre C s ρ σ own μ) (e : Ev s s') (W : Wd C.K C.w s' μ') : Pre C s' ρ σ own μ' :=
  ⟨p.r.step e p.wd, W, p.ev.trans e, p.fr⟩
def ResG {α : Type} (C : Ctx) (σ : L2.St) (r : R α) (F : α → Sto → Prop) : Prop := match r with
  | .ok a μ => F a μ
  | .exc c fs μ => XRes C σ c fs μ
  | .bad => False
section
variable {C : Ctx} {σ : L2.St} {α β : Type} {μ : Sto}
theorem ResG.bind {m : M α} {k : α → M β} {F : β → Sto → Prop} (h : ResG C σ (M.bind m k μ) F) : ResG C σ (m μ) fun a μ1 => ResG C σ (k a μ1) F := by
  unfold M.bind at h
  cases e : m μ with
  | ok a μ1 => rw [e] at h; exact h
  | exc c fs μ1 => rw [e] at h; exact h
  | bad => rw [e] at h; exact h.elim
theorem ResG.mono {r : R α} {F F' : α → Sto → Prop} (h : ResG C σ r F) (k : ∀ a μ, F a μ → F' a μ) : ResG C σ r F' := by
  cases r with
  | ok a μ1 => exact k a μ1 h
  | exc c fs μ1 => exact h
  | bad => exact h.elim
theorem ResG.guard {b : Bool} {m : M α} {F : α → Sto → Prop} (h : ResG C σ (guard' b m μ) F) : b = true ∧ ResG C σ (m μ) F := by
  cases b with
  | true => exact ⟨rfl, h⟩
  | false => exact h.elim
theorem ResG.ret {a : α} {F : α → Sto → Prop} (h : ResG C σ (M.ret a μ) F) : F a μ := h
theorem ResG.ofO {o : Option α} {F : α → Sto → Prop} (h : ResG C σ (ofO o μ) F) : ∃ a, o = some a ∧ F a μ := by
  cases o with
  | none => exact h.elim
  | some a => exact ⟨a, rfl, h⟩
end
def tD (C : Ctx) (f : Env → M D) : TE := fun σ H Q => ∃ s ρ own μ, s.H = H ∧ Pre C s ρ σ own μ ∧ ResG C σ (f ρ μ) fun d μ' => ∀ v s' o, Post C.K C.w s s' μ' d v o → Q v s'.H
def tDB (C : Ctx) (f : Env → M D) : TE := fun σ H Q => ∃ s ρ own μ, s.H = H ∧ Pre C s ρ σ own μ ∧ ResG C σ (f ρ μ) fun d μ' => ∀ v s', PostB C.K C.w s s' μ' d v → Q v s'.H
def tDT (C : Ctx) (f : Env → M Bool) : TT := fun σ H Q => ∃ s ρ own μ, s.H = H ∧ Pre C s ρ σ own μ ∧ ResG C σ (f ρ μ) fun b μ' => ∀ s', Ev s s' → Wd C.K C.w s' μ' → Q b s'.H
def tDA (C : Ctx) (f : Env → M (List D)) : TA := fun σ H Q => ∃ s ρ own μ, s.H = H ∧ Pre C s ρ σ own μ ∧ ResG C σ (f ρ μ) fun ds μ' => ∀ vs s' o, Ev s s' → Wd C.K C.w s' μ' → RepL C.K C.w s' ds vs o → o.Nodup → (∀ a ∈ o, s'.O a ∧ ¬ s.O a ∧ a ∉ s'.ι) → Q vs s'.H
abbrev OkE (C : Ctx) (e : Expr) (f : Env → M D) : Prop := PE C.X e (tD C f)
abbrev OkB (C : Ctx) (e : Expr) (f : Env → M D) : Prop := PE C.X e (tDB C f)
abbrev OkT (C : Ctx) (e : Expr) (f : Env → M Bool) : Prop := PT C.X e (tDT C f)
abbrev OkA (C : Ctx) (es : List Expr) (f : Env → M (List D)) : Prop := PA C.X es (tDA C f)
theorem PE_imp {X : Cx} {e : Expr} {t t' : TE} (h : PE X e t) (i : ∀ σ H Q, t' σ H Q → t σ H Q) : PE X e t' := ⟨fun pins s σ H Q I q => h.run pins s σ H Q I (i σ H Q q)⟩
theorem PT_imp {X : Cx} {e : Expr} {t t' : TT} (h : PT X e t) (i : ∀ σ H Q, t' σ H Q → t σ H Q) : PT X e t' := ⟨fun pins s σ H Q I q => h.run pins s σ H Q I (i σ H Q q)⟩
theorem PA_imp {X : Cx} {e : List Expr} {t t' : TA} (h : PA X e t) (i : ∀ σ H Q, t' σ H Q → t σ H Q) : PA X e t' := ⟨fun pos pins s σ H Q I q => h.run pos pins s σ H Q I (i σ H Q q)⟩
theorem PS_imp {X : Cx} {e : Stmt} {t t' : TS} (h : PS X e t) (i : ∀ D σ H, t' D σ H → t D σ H) : PS X e t' := ⟨fun pins s σ H D I q => h.run pins s σ H D I (i D σ H q)⟩
theorem PSs_imp {X : Cx} {e : List Stmt} {t t' : TS} (h : PSs X e t) (i : ∀ D σ H, t' D σ H → t D σ H) : PSs X e t' := ⟨fun pins s σ H D I q => h.run pins s σ H D I (i D σ H q)⟩

section
variable {C : Ctx} {e a b : Expr} {f g : Env → M D}
/-- scalars -/
theorem Post.scal {K : PySem.W.Frag} {w : World} {s s' : Sx} {μ : Sto} {d : D} {v : V} (e : Ev s s') (W : Wd K w s' μ) (r : Rep K w s' d v []) : Post K w s s' μ d v [] :=
  ⟨e, W, r, List.nodup_nil, fun _ z => nomatch z⟩
theorem Post.tr {K : PySem.W.Frag} {w : World} {s s1 s' : Sx} {μ : Sto} {d : D} {v : V} {o : List Addr} (e : Ev s s1) (p : Post K w s1 s' μ d v o) : Post K w s s' μ d v o :=
  ⟨e.trans p.ev, p.wd, p.rep, p.nd, fun a h => ⟨(p.ow a h).1, fun q => (p.ow a h).2.1 (e.up a q), (p.ow a h).2.2⟩⟩
theorem PostB.tr {K : PySem.W.Frag} {w : World} {s s1 s' : Sx} {μ : Sto} {d : D} {v : V} (e : Ev s s1) (p : PostB K w s1 s' μ d v) : PostB K w s s' μ d v := ⟨e.trans p.ev, p.wd, p.rep⟩
/-- a value used as an operand -/
theorem ok_opnd (h : OkE C e f) : OkB C e (fun ρ => M.bind (f ρ) (opnd false)) := by
  refine PE_imp h fun σ H Q ⟨s, ρ, own, μ, e1, p, q⟩ => ⟨s, ρ, own, μ, e1, p, q.bind.mono fun d μ1 h v s1 o po => ?_⟩
  exact h.ret v (s1.less o) po.toB
/-- names -/
theorem ok_var {i : Nat} {x : Str} {pos : Pos} (hN : C.X.N[i]? = some x) (hv : Vis C.X.env.scope x) (hd : (x == ("__debug__" : Str)) = false) (hc : (x == ("__classdict__" : Str)) = false) : OkE C (.Name x pos) (fun ρ => match ρ[i]? with
    | some (some d) => guard' d.nb (M.ret d)
    | _ => M.bad) := by
  refine PE_imp (pe_var hN hv hd hc) fun σ H Q ⟨s, ρ, own, μ, e1, p, q⟩ => ?_
  cases h : ρ[i]? with
  | none => simp only [h] at q; exact q.elim
  | some od =>
    cases od with
    | none => simp only [h] at q; exact q.elim
    | some d =>
      simp only [h] at q
      obtain ⟨n, q⟩ := q.guard
      obtain ⟨v, hv, r⟩ := p.r.at_ i d h
      have r := r.nbR n
      have eo := Rep.nb _ _ _ r n
      rw [eo] at r
      exact ⟨v, hv, by rw [← e1]; exact q.ret v s [] (Post.scal (Ev.refl s) p.wd r)⟩
theorem ok_brw {i : Nat} {x : Str} {pos : Pos} (hN : C.X.N[i]? = some x) (hv : Vis C.X.env.scope x) (hd : (x == ("__debug__" : Str)) = false) (hc : (x == ("__classdict__" : Str)) = false) : OkB C (.Name x pos) (fun ρ => M.bind (match ρ[i]? with
    | some (some d) => M.ret d
    | _ => M.bad) (opnd true)) := by
  refine PE_imp (pe_var hN hv hd hc) fun σ H Q ⟨s, ρ, own, μ, e1, p, q⟩ => ?_
  cases h : ρ[i]? with
  | none => simp only [h] at q; exact q.elim
  | some od =>
    cases od with
    | none => simp only [h] at q; exact q.elim
    | some d =>
      simp only [h] at q
      obtain ⟨n, q⟩ := (q.bind.ret : ResG C σ (opnd true d μ) _).guard
      obtain ⟨v, hv, r⟩ := p.r.at_ i d h
      exact ⟨v, hv, by rw [← e1]; exact q.ret v s ⟨Ev.refl s, p.wd, (r.inbR n).opdB n p.wd.sub fun a ha => (p.r.ow i a ha).2⟩⟩
/-- constants -/
theorem ok_const {v : V} {d : D} (h : PE C.X e (tC v)) (r : ∀ s, Rep C.K C.w s d v []) : OkE C e (fun _ => M.ret d) :=
  PE_imp h fun σ H Q ⟨s, ρ, own, μ, e1, p, q⟩ => by
    show Q v H
    rw [← e1]
    exact q.ret v s [] (Post.scal (Ev.refl s) p.wd (r s))
/-- two operands -/
theorem tD_two {t t' : TE} {R : V → V → Hp → VK → Prop} (h : PE C.X e (tOp R t t')) (k : D → D → M D)
    (ht : ∀ σ H Q, tDB C f σ H Q → t σ H Q) (ht' : ∀ σ H Q, tDB C g σ H Q → t' σ H Q)
    (hk : ∀ σ s μ x y vx vy Q, Wd C.K C.w s μ → RepB C.K C.w s x vx → RepB C.K C.w s y vy → ResG C σ (k x y μ) (fun d μ' => ∀ v s' o, Post C.K C.w s s' μ' d v o → Q v s'.H) → R vx vy s.H Q) :
    OkE C e (fun ρ => M.bind (f ρ) fun x => M.bind (g ρ) fun y => k x y) := by
  refine PE_imp h fun σ H Q ⟨s, ρ, own, μ, e1, p, q⟩ => ?_
  refine ht _ _ _ ⟨s, ρ, own, μ, e1, p, q.bind.mono fun x μ1 h1 vx s1 p1 => ?_⟩
  refine ht' _ _ _ ⟨s1, ρ, own, μ1, rfl, p.step p1.ev p1.wd, h1.bind.mono fun y μ2 h2 vy s2 p2 => ?_⟩
  exact hk σ s2 μ2 x y vx vy Q p2.wd (p2.ev.repB p1.wd p1.rep) p2.rep (h2.mono fun d μ' h3 v s' o po => h3 v s' o (po.tr (p1.ev.trans p2.ev)))
theorem tD_one {t : TE} {R : V → Hp → VK → Prop} (h : PE C.X e (tUn R t)) (k : D → M D) (ht : ∀ σ H Q, tDB C f σ H Q → t σ H Q)
    (hk : ∀ σ s μ x vx Q, Wd C.K C.w s μ → RepB C.K C.w s x vx → ResG C σ (k x μ) (fun d μ' => ∀ v s' o, Post C.K C.w s s' μ' d v o → Q v s'.H) → R vx s.H Q) :
    OkE C e (fun ρ => M.bind (f ρ) fun x => k x) := by
  refine PE_imp h fun σ H Q ⟨s, ρ, own, μ, e1, p, q⟩ => ?_
  refine ht _ _ _ ⟨s, ρ, own, μ, e1, p, q.bind.mono fun x μ1 h1 vx s1 p1 => ?_⟩
  exact hk σ s1 μ1 x vx Q p1.wd p1.rep (h1.mono fun d μ' h3 v s' o po => h3 v s' o (po.tr p1.ev))
end
end Vf

/-! V3 -/
set_option autoImplicit false
set_option linter.all false
set_option Elab.async false
set_option maxHeartbeats 1000000
/-! V3: the operations. -/
namespace Vf
open PySem PySem.Spec PyProof.Rows L2

theorem line_eq : LINE = sizeLine := sizeLine_eq.symm
/-! ### new objects -/
section
variable {K : PySem.W.Frag} {w : World} {s s1 : Sx} {μ : Sto} {ds : List D} {vs : List V} {o : List Addr} {p : Addr}
/-- a new tracked thing that may not be written -/
def Sx.tup (s : Sx) (p : Addr) (u : HO) : Sx := { s with H := upd s.H p u }
/-- a new owned thing -/
def Sx.own (s : Sx) (p : Addr) (u : HO) : Sx := { s with H := upd s.H p u, O := fun a => s.O a ∨ a = p }
theorem Ev.tup (h : s.H p = none) {u : HO} : Ev s (s.tup p u) :=
  ⟨fun a x q _ => by show upd s.H p u a = _; rw [upd_ne (ne_of_none q h)]; exact q, ⟨[], by simp [Sx.tup], fun _ z => nomatch z⟩, fun _ q => q, fun _ q => .inl q, fun a q => by
    have q' : upd s.H p u a = none := q
    by_cases e : a = p
    · rw [e, upd_same] at q'; cases q'
    · rw [upd_ne e] at q'; exact q'⟩
theorem Ev.ownN (h : s.H p = none) {u : HO} : Ev s (s.own p u) :=
  ⟨fun a x q _ => by show upd s.H p u a = _; rw [upd_ne (ne_of_none q h)]; exact q, ⟨[], by simp [Sx.own], fun _ z => nomatch z⟩, fun _ q => .inl q, fun a q => q.elim .inl fun e => .inr (by rw [e]; exact h), fun a q => by
    have q' : upd s.H p u a = none := q
    by_cases e : a = p
    · rw [e, upd_same] at q'; cases q'
    · rw [upd_ne e] at q'; exact q'⟩
theorem Wd.tup (W : Wd K w s μ) (h : s.H p = none) {u : HO} : Wd K w (s.tup p u) μ := by
  refine ⟨fun a q => ?_, W.sub, W.nd, W.len, fun n a ds h1 h2 => ?_⟩
  · have m := W.mt a q
    have e : a ≠ p := fun z => mut_ne m (by rw [z]; exact h)
    show Mut (upd s.H p u a)
    rw [upd_ne e]; exact m
  · obtain ⟨vs, h3, h4⟩ := W.at_ n a ds h1 h2
    exact ⟨vs, by show upd s.H p u a = _; rw [upd_ne (ne_of_none h3 h)]; exact h3, (Ev.tup h).repL W h4⟩
theorem Wd.ownN (W : Wd K w s μ) (h : s.H p = none) {u : HO} (mu : Mut (some u)) : Wd K w (s.own p u) μ := by
  refine ⟨fun a q => ?_, fun a q => .inl (W.sub a q), W.nd, W.len, fun n a ds h1 h2 => ?_⟩
  · show Mut (upd s.H p u a)
    by_cases e : a = p
    · rw [e, upd_same]; exact mu
    · rw [upd_ne e]
      rcases q with q | q
      · exact W.mt a q
      · exact absurd q e
  · obtain ⟨vs, h3, h4⟩ := W.at_ n a ds h1 h2
    exact ⟨vs, by show upd s.H p u a = _; rw [upd_ne (ne_of_none h3 h)]; exact h3, (Ev.ownN h).repL W h4⟩
theorem Post.newT (e : Ev s s1) (W : Wd K w s1 μ) (r : RepL K w s1 ds vs o) (nd : o.Nodup) (ow : ∀ a ∈ o, s1.O a ∧ ¬ s.O a ∧ a ∉ s1.ι) (h : s1.H p = none) :
    Post K w s (s1.tup p (.tup vs)) μ (.tup ds) (.ref p) o :=
  ⟨e.trans (Ev.tup h), W.tup h, ⟨p, vs, rfl, .of upd_same, (Ev.tup h).repLo W r fun a ha => ⟨(ow a ha).1, (ow a ha).2.2⟩⟩, nd, ow⟩
theorem Post.newL (e : Ev s s1) (W : Wd K w s1 μ) (r : RepL K w s1 ds vs o) (nd : o.Nodup) (ow : ∀ a ∈ o, s1.O a ∧ ¬ s.O a ∧ a ∉ s1.ι) (h : s1.H p = none) :
    Post K w s (s1.own p (.lst vs)) μ (.lst true ds) (.ref p) (p :: o) := by
  refine ⟨e.trans (Ev.ownN h), W.ownN h trivial, ⟨p, vs, o, rfl, upd_same, rfl, (Ev.ownN h).repLo W r fun a ha => ⟨(ow a ha).1, (ow a ha).2.2⟩⟩, List.nodup_cons.mpr ⟨fun q => mut_ne (W.mt p (ow p q).1) h, nd⟩, fun a ha => ?_⟩
  rcases List.mem_cons.mp ha with rfl | ha
  · refine ⟨.inr rfl, fun q => mut_ne (W.mt a (e.up a q)) h, fun q => mut_ne (W.mt a (W.sub a q)) h⟩
  · exact ⟨.inl (ow a ha).1, (ow a ha).2⟩
theorem Post.newD {ks : List Key} (e : Ev s s1) (W : Wd K w s1 μ) (l : ks.length = ds.length) (r : RepL K w s1 ds vs []) (h : s1.H p = none) :
    Post K w s (s1.own p (.dK (ks.zip vs))) μ (.dct true ks ds) (.ref p) [p] := by
  refine ⟨e.trans (Ev.ownN h), W.ownN h trivial, ⟨p, vs, rfl, upd_same, rfl, l, (Ev.ownN h).repL W r⟩, by simp, fun a ha => ?_⟩
  have e' : a = p := by simpa using ha
  subst e'
  exact ⟨.inr rfl, fun q => mut_ne (W.mt a (e.up a q)) h, fun q => mut_ne (W.mt a (W.sub a q)) h⟩
end

/-! ### list + list, tracked or known -/
def CatL (K : PySem.W.Frag) (H : Hp) (a : Addr) (xs : List V) : Prop := SqL K H a xs
theorem RdL.cat {K : PySem.W.Frag} {s : Sx} {a : Addr} {vs : List V} (h : RdL K s a vs) : CatL K s.H a vs := h.sq
def rCatR (K : PySem.W.Frag) : R2 := fun x y H Q => ∃ l b xs zs, x = .ref l ∧ y = .ref b ∧ CatL K H l xs ∧ CatL K H b zs ∧ xs.length + zs.length ≤ sizeLine ∧ ∀ p, H p = none → Q (.ref p) (upd H p (.lst (xs ++ zs)))
theorem op_catR {X : Cx} : OpR X (binaryOp .Add) (rCatR X.K) := by
  intro pins s σ H x y v u Q I rx ry h
  obtain ⟨l, b, xs, zs, rfl, rfl, hH, hB, hz, q⟩ := h
  cases rx
  cases ry
  obtain ⟨its, r, ⟨⟨cls, dd, data, sl⟩, n, e, hc, hd, hdat⟩, hl⟩ := I.list (show SqL X.K H l xs from hH)
  obtain ⟨its2, r2, ⟨⟨cls2, dd2, data2, sl2⟩, n2, e2, hc2, hd2, hdat2⟩, hl2⟩ := I.list (show SqL X.K H b zs from hB)
  simp only at hc hd hdat hc2 hd2 hdat2
  subst hc hdat hc2 hdat2
  have ln := r.length
  have ln2 := r2.length
  refine concat_meets ⟨_, e, rfl⟩ ⟨_, e2, rfl⟩ noFill_list_add seq_list_add PySem.F.slot_list_add PySem.F.entry_list_add (PySem.F.args_list_add_2 _ _) (list_addW l b its.toArray its2.toArray n n2 dd dd2 sl sl2 (by rw [List.size_toArray, List.size_toArray]; omega)) ⟨e, e2, ?_⟩
  have ea : its.toArray ++ its2.toArray = (its ++ its2).toArray := by simp
  rw [ea]
  exact ⟨.ref _, _, I.lnew (t' := s.toks) (r.append r2) (by rw [List.length_append]; omega), rfl, q _ I.fresh⟩

/-! ### list * int -/
theorem int_rmulW (a : Int) (t : Tok) (l : Addr) (items : Array Value) (n : Nat) (sl : Array (Option Value)) :
    Meets (Builtin.«int.__rmul__» ⟨[.int a t, .ref l], []⟩) (fun _ R s => s.heap.get? l = some { cls := .type "list", dict := none, data := .seq items n, slots := sl } ∧ R (.ok (.ret Value.notImplemented)) s) :=
  .of_wp fun prog w A R s h => by obtain ⟨hp, g, d, tk, os⟩ := s; obtain ⟨hl, h⟩ := h; wp_walk; exact ⟨_, rfl, h⟩
theorem list_mulW (l : Addr) (items : Array Value) (n : Nat) (x : Int) (u : Tok) (sl : Array (Option Value)) (hc0 : ¬(!Builtin.List.listFitsIndex x) = true) (hc1 : ¬items.size * x.toNat > (2 ^ 63 - 1) / 8) (hc2 : ¬Builtin.List.listTooLong (items.size * x.toNat) = true) :
    Meets (Builtin.«list.__mul__» ⟨[.ref l, .int x u], []⟩) (fun _ R s => s.heap.get? l = some { cls := .type "list", dict := none, data := .seq items n, slots := sl } ∧ R (.ok (.ret (Value.ref s.heap.objs.size))) { s with heap := s.heap.push { cls := Value.type "list", data := Data.seq (List.foldl (fun x1 x2 => x1 ++ x2) #[] (List.replicate (if items.isEmpty = true then 0 else x.toNat) items)) }, toks := s.toks }) :=
  .of_wp fun prog w A R s h => by
    obtain ⟨hp, g, d, tk, os⟩ := s; obtain ⟨hl, h⟩ := h
    have hsz := PySem.AutoListH.joined_fits hc2
    wp_walk using wpAny_loadPart' hl; refine wpAny_ite_false (decide_eq_false (Nat.not_lt.mpr hsz)) ?_; wp_walk using wpAny_loadPart' hl; exact ⟨_, rfl, h⟩
def rRepR (K : PySem.W.Frag) : R2 := fun x y H Q => ∃ l k xs, x = .ref l ∧ y = .int k ∧ SqL K H l xs ∧ -(2 ^ 63) ≤ k ∧ k < 2 ^ 63 ∧ xs.length * k.toNat ≤ sizeLine ∧
  ∀ p, H p = none → Q (.ref p) (upd H p (.lst (List.replicate k.toNat xs).flatten))
theorem op_repR {X : Cx} : OpR X (binaryOp .Mult) (rRepR X.K) := by
  intro pins s σ H x y v u Q I rx ry h
  obtain ⟨l, k, xs, rfl, rfl, hH, h1, h2, hz, q⟩ := h
  cases rx
  obtain ⟨t, rfl⟩ := ry
  obtain ⟨its, r, ⟨⟨cls, dd, data, sl⟩, n, e, hc, hd, hdat⟩, hl⟩ := I.list hH
  simp only at hc hd hdat
  subst hc hd hdat
  have hl' : xs.length = its.length := r.length
  have hlen : its.toArray.size * k.toNat ≤ sizeLine := by rw [List.size_toArray, ← hl']; exact hz
  have hcap : ¬ its.toArray.size * k.toNat > (2 ^ 63 - 1) / 8 := by
    have : (sizeLine : Nat) ≤ (2 ^ 63 - 1) / 8 := by decide
    omega
  have hfit : ¬ (!Builtin.List.listFitsIndex k) = true := by
    rw [fitsIndex_both h1 h2]
    exact Bool.false_ne_true
  have hlong : ¬ Builtin.List.listTooLong (its.toArray.size * k.toNat) = true := by
    rw [notLongL hlen]
    exact Bool.false_ne_true
  have hnew : List.foldl (fun x1 x2 => x1 ++ x2) #[] (List.replicate (if its.toArray.isEmpty = true then 0 else k.toNat) its.toArray) = (List.replicate k.toNat its).flatten.toArray := by
    have f0 : ∀ m : Nat, List.foldl (fun x1 x2 => x1 ++ x2) #[] (List.replicate m its.toArray) = (List.replicate m its).flatten.toArray := fun m => by
      have := foldl_rep its m []
      rw [List.nil_append] at this
      exact this
    rw [f0]
    cases its with
    | nil => simp
    | cons a r' => rw [if_neg (by simp)]
  refine wpAny_binaryOp_repeat_ref (T := "list") (U := "int") (by decide) ⟨_, e, rfl⟩ (fun s' => typeIs_int s' k t) noFill_list_mul F.fills_int_mul F.slot_int_rmul repeat_list F.slot_int_index.lookup
    (call_meets F.slot_int_rmul (typeIs_int s k t) F.entry_int_rmul (F.args_int_rmul_2 _ _) (int_rmulW k t l its.toArray n sl)
      ⟨e, rfl, ⟨_, e, rfl⟩, call_meets F.slot_list_mul ⟨_, e, rfl⟩ F.entry_list_mul (F.args_list_mul_2 _ _) (list_mulW l its.toArray n k t sl hfit hcap hlong) ⟨e, ?_⟩⟩)
  rw [hnew]
  exact ⟨.ref _, _, I.lnew (t' := s.toks) (r.rep k.toNat) (by rw [PyProof.Rows.lm_len_rep_flat, Nat.mul_comm]; exact hz), rfl, q _ I.fresh⟩
/-! ### what an operand is -/
section
variable {C : Ctx} {σ : L2.St} {s : Sx} {μ : Sto} {x y : D} {vx vy : V} {Q : VK}
theorem nil_post {d : D} {v : V} (W : Wd C.K C.w s μ) (r : Rep C.K C.w s d v []) (h : ∀ v s' o, Post C.K C.w s s' μ d v o → Q v s'.H) : Q v s.H := h v s [] (Post.scal (Ev.refl s) W r)
theorem kAdd (W : Wd C.K C.w s μ) (rx : RepB C.K C.w s x vx) (ry : RepB C.K C.w s y vy) (h : ResG C σ (binD .add x y μ) fun d μ' => ∀ v s' o, Post C.K C.w s s' μ' d v o → Q v s'.H) :
    (rI0 fun i j => .int (i + j)) vx vy s.H Q ∨ (∃ i j, vx = .str i ∧ vy = .str j ∧ i.length + j.length ≤ sizeLine ∧ Q (.str (i ++ j)) s.H) ∨ rCatA C.K vx vy s.H Q ∨ rCatR C.K vx vy s.H Q := by
  cases x with
  | int i =>
    cases y with
    | int j => exact .inl ⟨i, j, rx.1, ry.1, nil_post (d := .int (i + j)) W ⟨rfl, rfl⟩ h.ret⟩
    | _ => exact h.elim
  | str i =>
    cases y with
    | str j =>
      obtain ⟨g, h⟩ := h.guard
      exact .inr (.inl ⟨i, j, rx.1, ry.1, by rw [← line_eq]; exact of_decide_eq_true g, nil_post (d := .str (i ++ j)) W ⟨rfl, rfl⟩ h.ret⟩)
    | _ => exact h.elim
  | tup as =>
    cases y with
    | tup bs =>
      obtain ⟨g, h⟩ := (show ResG C σ (tTup (as ++ bs) μ) _ from h).guard
      obtain ⟨a, vs, ea, ha, ra⟩ := rx
      obtain ⟨b, us, eb, hb, rb⟩ := ry
      have l : vs.length + us.length ≤ sizeLine := by
        rw [← line_eq, ← ra.len, ← rb.len, ← List.length_append]; exact of_decide_eq_true g
      refine .inr (.inr (.inl ⟨a, b, vs, us, ea, eb, ha, hb, l, fun e => ?_, fun _ e => ?_, fun _ _ p hp => ?_⟩))
      · have z : as = [] := List.eq_nil_of_length_eq_zero (by rw [ra.len, e]; rfl)
        subst z
        exact nil_post (d := .tup bs) W ⟨b, us, rfl, hb, rb⟩ h.ret
      · have z : bs = [] := List.eq_nil_of_length_eq_zero (by rw [rb.len, e]; rfl)
        subst z
        rw [List.append_nil] at h
        exact nil_post (d := .tup as) W ⟨a, vs, rfl, ha, ra⟩ h.ret
      · exact h.ret (.ref p) (s.tup p (.tup (vs ++ us))) [] (Post.newT (Ev.refl s) W (ra.append rb) List.nodup_nil (fun _ z => nomatch z) hp)
    | _ => exact h.elim
  | lst b as =>
    cases y with
    | lst b' bs =>
      obtain ⟨g, h⟩ := (show ResG C σ (tLst true (as ++ bs) μ) _ from h).guard
      obtain ⟨a, vs, ea, ha, ra⟩ := rx
      obtain ⟨c, us, eb, hb, rb⟩ := ry
      have l : vs.length + us.length ≤ sizeLine := by
        rw [← line_eq, ← ra.len, ← rb.len, ← List.length_append]; exact of_decide_eq_true g
      exact .inr (.inr (.inr ⟨a, c, vs, us, ea, eb, ha.cat, hb.cat, l, fun p hp => h.ret (.ref p) (s.own p (.lst (vs ++ us))) [p] (Post.newL (Ev.refl s) W (ra.append rb) List.nodup_nil (fun _ z => nomatch z) hp)⟩))
    | _ => exact h.elim
  | non => exact h.elim
  | bl _ => exact h.elim
  | dct _ _ _ => exact h.elim
  | ref _ => exact h.elim
  | exn _ _ => exact h.elim
theorem kInts {op : Bop} {Cc : Int → Int → Prop} {g : Int → Int → Int} (ha : op ≠ .add) (hop : ∀ i j, ∃ b, binD op (.int i) (.int j) = guard' b (M.ret (.int (g i j))) ∧ (b = true → Cc i j))
    (hno : ∀ x y, (∀ i j, ¬ (x = D.int i ∧ y = D.int j)) → binD op x y = M.bad)
    (W : Wd C.K C.w s μ) (rx : RepB C.K C.w s x vx) (ry : RepB C.K C.w s y vy) (h : ResG C σ (binD op x y μ) fun d μ' => ∀ v s' o, Post C.K C.w s s' μ' d v o → Q v s'.H) :
    rI Cc (fun i j => .int (g i j)) vx vy s.H Q := by
  by_cases e : ∃ i j, x = D.int i ∧ y = D.int j
  · obtain ⟨i, j, rfl, rfl⟩ := e
    obtain ⟨b, e, hb⟩ := hop i j
    rw [e] at h
    obtain ⟨g1, h⟩ := h.guard
    exact ⟨i, j, rx.1, ry.1, hb g1, nil_post (d := .int (g i j)) W ⟨rfl, rfl⟩ h.ret⟩
  · rw [hno x y fun i j z => e ⟨i, j, z⟩] at h
    exact h.elim
end
theorem b64_lt {i : Int} (h : -B64 < i ∧ i < B64) : -(2 ^ 64) < i ∧ i < 2 ^ 64 := by
  have e : B64 = 2 ^ 64 := by decide
  rw [e] at h; exact h
section
variable {C : Ctx} {a b : Expr} {f g : Env → M D} {pos : Pos}
theorem bin_no (op : Bop) (h : op ≠ .add) (h2 : op ≠ .mul) : ∀ x y, (∀ i j, ¬ (x = D.int i ∧ y = D.int j)) → binD op x y = M.bad := by
  intro x y n
  cases op <;> first | exact absurd rfl h | exact absurd rfl h2 | (cases x <;> first | rfl | (cases y <;> first | rfl | exact absurd ⟨rfl, rfl⟩ (n _ _)))
theorem ok_add (ha : OkB C a f) (hb : OkB C b g) : OkE C (.BinOp a .Add b pos) (fun ρ => M.bind (f ρ) fun x => M.bind (g ρ) fun y => binD .add x y) :=
  tD_two (pe_op (op_add.or (op_add_str.or (op_catA.or op_catR))) ha hb) _ (fun _ _ _ q => q) (fun _ _ _ q => q) fun σ s μ x y vx vy Q W rx ry h => kAdd W rx ry h
theorem ok_sub (ha : OkB C a f) (hb : OkB C b g) : OkE C (.BinOp a .Sub b pos) (fun ρ => M.bind (f ρ) fun x => M.bind (g ρ) fun y => binD .sub x y) :=
  tD_two (pe_op op_sub ha hb) _ (fun _ _ _ q => q) (fun _ _ _ q => q) fun σ s μ x y vx vy Q W rx ry h => by
    obtain ⟨i, j, e1, e2, _, q⟩ := kInts (Cc := fun _ _ => True) (g := fun i j => i - j) (by decide) (fun i j => ⟨true, rfl, fun _ => trivial⟩) (bin_no _ (by decide) (by decide)) W rx ry h
    exact ⟨i, j, e1, e2, q⟩
theorem RepL.repl {K : PySem.W.Frag} {w : World} {s : Sx} {ds : List D} {vs : List V} (r : RepL K w s ds vs []) : ∀ n : Nat, RepL K w s (List.replicate n ds).flatten (List.replicate n vs).flatten []
  | 0 => ⟨rfl, rfl⟩
  | n + 1 => by
    rw [List.replicate_succ, List.replicate_succ, List.flatten_cons, List.flatten_cons]
    exact r.append (RepL.repl r n)
theorem kMul {σ : L2.St} {s : Sx} {μ : Sto} {x y : D} {vx vy : V} {Q : VK} (W : Wd C.K C.w s μ) (rx : RepB C.K C.w s x vx) (ry : RepB C.K C.w s y vy) (h : ResG C σ (binD .mul x y μ) fun d μ' => ∀ v s' o, Post C.K C.w s s' μ' d v o → Q v s'.H) :
    rI (fun i j => (-(2 ^ 64) < i ∧ i < 2 ^ 64) ∨ (-(2 ^ 64) < j ∧ j < 2 ^ 64)) (fun i j => .int (i * j)) vx vy s.H Q ∨ rRepR C.K vx vy s.H Q := by
  cases x with
  | int i =>
    cases y with
    | int j =>
      obtain ⟨g, h⟩ := h.guard
      exact .inl ⟨i, j, rx.1, ry.1, (of_decide_eq_true g).imp b64_lt b64_lt, nil_post (d := .int (i * j)) W ⟨rfl, rfl⟩ h.ret⟩
    | _ => exact h.elim
  | lst b ds =>
    cases y with
    | int k =>
      obtain ⟨g, h⟩ := h.guard
      obtain ⟨a, vs, ea, ha, ra⟩ := rx
      obtain ⟨g1, g2, g3⟩ := of_decide_eq_true g
      exact .inr ⟨a, k, vs, ea, ry.1, ha.sq, by omega, by omega, by rw [← line_eq, ← ra.len]; exact g3, fun p hp => h.ret (.ref p) (s.own p (.lst (List.replicate k.toNat vs).flatten)) [p] (Post.newL (Ev.refl s) W (ra.repl k.toNat) List.nodup_nil (fun _ z => nomatch z) hp)⟩
    | _ => exact h.elim
  | non => cases y <;> exact h.elim
  | bl _ => cases y <;> exact h.elim
  | str _ => cases y <;> exact h.elim
  | tup _ => cases y <;> exact h.elim
  | dct _ _ _ => cases y <;> exact h.elim
  | ref _ => cases y <;> exact h.elim
  | exn _ _ => cases y <;> exact h.elim
theorem ok_mul (ha : OkB C a f) (hb : OkB C b g) : OkE C (.BinOp a .Mult b pos) (fun ρ => M.bind (f ρ) fun x => M.bind (g ρ) fun y => binD .mul x y) :=
  tD_two (pe_op (op_mul.or op_repR) ha hb) _ (fun _ _ _ q => q) (fun _ _ _ q => q) fun σ s μ x y vx vy Q W rx ry h => kMul W rx ry h
theorem ok_fdiv (ha : OkB C a f) (hb : OkB C b g) : OkE C (.BinOp a .FloorDiv b pos) (fun ρ => M.bind (f ρ) fun x => M.bind (g ρ) fun y => binD .fdiv x y) :=
  tD_two (pe_op op_fdiv ha hb) _ (fun _ _ _ q => q) (fun _ _ _ q => q) fun σ s μ x y vx vy Q W rx ry h =>
    kInts (g := fun i j => i / j) (by decide) (fun i j => ⟨_, rfl, fun z => of_decide_eq_true (p := 0 < j ∧ j < 1073741824) z⟩) (bin_no _ (by decide) (by decide)) W rx ry h
theorem ok_mod (ha : OkB C a f) (hb : OkB C b g) : OkE C (.BinOp a .Mod b pos) (fun ρ => M.bind (f ρ) fun x => M.bind (g ρ) fun y => binD .mod x y) :=
  tD_two (pe_op op_mod ha hb) _ (fun _ _ _ q => q) (fun _ _ _ q => q) fun σ s μ x y vx vy Q W rx ry h =>
    kInts (g := fun i j => i % j) (by decide) (fun i j => ⟨_, rfl, fun z => of_decide_eq_true z⟩) (bin_no _ (by decide) (by decide)) W rx ry h
theorem ok_pow (ha : OkB C a f) (hb : OkB C b g) : OkE C (.BinOp a .Pow b pos) (fun ρ => M.bind (f ρ) fun x => M.bind (g ρ) fun y => binD .pow x y) :=
  tD_two (pe_op op_pow ha hb) _ (fun _ _ _ q => q) (fun _ _ _ q => q) fun σ s μ x y vx vy Q W rx ry h =>
    kInts (g := fun i j => i ^ j.toNat) (by decide) (fun i j => ⟨_, rfl, fun z => by
      obtain ⟨h0, h1, h2, h3⟩ := of_decide_eq_true z
      have := b64_lt ⟨h2, h3⟩
      exact ⟨h0, h1, by omega⟩⟩) (bin_no _ (by decide) (by decide)) W rx ry h
end
end Vf

/-! V4 -/
set_option autoImplicit false
set_option linter.all false
set_option Elab.async false
set_option maxHeartbeats 1000000
/-! V4: comparisons, subscripts, slices. -/
namespace Vf
open PySem PySem.Spec PyProof.Rows L2

/-! ### data for == -/
section
variable {K : PySem.W.Frag} {w : World} {s : Sx}
mutual
theorem Rep.dp : ∀ (d : D) (v : V) (o : List Addr) (p : PyData), Rep K w s d v o → d.toP = some p → Dp K s.H v p
  | .non, _, _, _, h, e => by cases e; rw [h.1]; exact .non
  | .bl b, _, _, _, h, e => by cases e; rw [h.1]; exact .bl b
  | .int i, _, _, _, h, e => by cases e; rw [h.1]; exact .int i
  | .str x, _, _, _, h, e => by cases e; rw [h.1]; exact .str x
  | .tup ds, v, o, p, h, e => by
    obtain ⟨a, vs, ev, q, r⟩ := h
    obtain ⟨ps, e1, e2⟩ := Option.map_eq_some_iff.mp (show (D.toPL ds).map PyData.tuple = some p from e)
    subst ev e2
    exact .tup q (RepL.dp ds vs o ps r e1)
  | .lst true ds, v, o, p, h, e => by
    obtain ⟨a, vs, o', ev, q, eo, r⟩ := h
    obtain ⟨ps, e1, e2⟩ := Option.map_eq_some_iff.mp (show (D.toPL ds).map PyData.list = some p from e)
    subst ev e2
    exact .lst (.of q) (RepL.dp ds vs o' ps r e1)
  | .lst false ds, v, o, p, h, e => by
    obtain ⟨a, vs, ev, q, eo, r⟩ := h
    obtain ⟨ps, e1, e2⟩ := Option.map_eq_some_iff.mp (show (D.toPL ds).map PyData.list = some p from e)
    subst ev e2
    exact .lst q.sq (RepL.dp ds vs [] ps r e1)
  | .dct _ _ _, _, _, _, _, e => by simp [D.toP] at e
  | .ref _, _, _, _, _, e => by simp [D.toP] at e
  | .exn _ _, _, _, _, _, e => by simp [D.toP] at e
theorem RepL.dp : ∀ (ds : List D) (vs : List V) (o : List Addr) (ps : List PyData), RepL K w s ds vs o → D.toPL ds = some ps → DpAll K s.H vs ps
  | [], vs, _, ps, h, e => by
    obtain ⟨rfl, _⟩ := h
    cases e
    exact .nil
  | d :: ds, vs, o, ps, h, e => by
    obtain ⟨v, vs', o1, o2, ev, eo, r1, r2⟩ := h
    subst ev
    unfold D.toPL at e
    cases e1 : d.toP with
    | none => rw [e1] at e; cases e
    | some p =>
      cases e2 : D.toPL ds with
      | none => rw [e1, e2] at e; cases e
      | some qs =>
        rw [e1, e2] at e
        cases e
        exact .cons (Rep.dp d v o1 p r1 e1) (RepL.dp ds vs' o2 qs r2 e2)
end
theorem RepB.dp {d : D} {v : V} {p : PyData} (h : RepB K w s d v) (e : d.toP = some p) : Dp K s.H v p := by
  cases d with
  | lst b ds =>
    obtain ⟨a, vs, ev, q, r⟩ := h
    obtain ⟨ps, e1, e2⟩ := Option.map_eq_some_iff.mp (show (D.toPL ds).map PyData.list = some p from e)
    subst ev e2
    exact .lst q.sq (RepL.dp ds vs [] ps r e1)
  | dct b _ _ => simp [D.toP] at e
  | non => exact Rep.dp _ v [] p h e
  | bl _ => exact Rep.dp _ v [] p h e
  | int _ => exact Rep.dp _ v [] p h e
  | str _ => exact Rep.dp _ v [] p h e
  | tup _ => exact Rep.dp _ v [] p h e
  | ref _ => exact Rep.dp _ v [] p h e
  | exn _ _ => exact Rep.dp _ v [] p h e
theorem Rep.flat {d : D} {v : V} {o : List Addr} (h : Rep K w s d v o) (f : d.flat = true) : v = d.toV ∧ flatV v = true := by
  cases d with
  | non => exact ⟨h.1, by rw [h.1]; rfl⟩
  | bl _ => exact ⟨h.1, by rw [h.1]; rfl⟩
  | int _ => exact ⟨h.1, by rw [h.1]; rfl⟩
  | str _ => exact ⟨h.1, by rw [h.1]; rfl⟩
  | _ => simp [D.flat] at f
theorem RepB.flat {d : D} {v : V} (h : RepB K w s d v) (f : d.flat = true) : v = d.toV ∧ flatV v = true := by
  cases d with
  | non => exact Rep.flat (K := K) (w := w) (s := s) (d := .non) (o := []) h f
  | bl b => exact Rep.flat (K := K) (w := w) (s := s) (d := .bl b) (o := []) h f
  | int b => exact Rep.flat (K := K) (w := w) (s := s) (d := .int b) (o := []) h f
  | str b => exact Rep.flat (K := K) (w := w) (s := s) (d := .str b) (o := []) h f
  | _ => simp [D.flat] at f
theorem RepL.flat : ∀ {ds : List D} {vs : List V}, RepL K w s ds vs [] → ds.all D.flat = true → vs = ds.map D.toV ∧ vs.all flatV = true
  | [], vs, h, _ => by
    obtain ⟨rfl, _⟩ := h
    exact ⟨rfl, rfl⟩
  | d :: ds, vs, h, f => by
    obtain ⟨v, vs', e, r1, r2⟩ := h.cons_of
    subst e
    rw [List.all_cons, Bool.and_eq_true] at f
    obtain ⟨e1, f1⟩ := r1.flat f.1
    obtain ⟨e2, f2⟩ := RepL.flat r2 f.2
    refine ⟨by rw [List.map_cons, ← e1, ← e2], ?_⟩
    rw [List.all_cons, f1, f2]
    rfl
theorem keyOf_rep {d : D} {v : V} {k : Key} (h : RepB K w s d v) (e : keyOf d = some k) : v = kV k := by
  cases d with
  | int i => cases e; exact h.1
  | str i => cases e; exact h.1
  | _ => simp [keyOf] at e
theorem kget_rep : ∀ {ks : List Key} {ds : List D} {vs : List V} {q : Key}, RepL K w s ds vs [] → ks.length = ds.length →
    (match kget ks ds q with
      | some d => ∃ v, valV (ks.zip vs) q = some v ∧ Rep K w s d v []
      | none => valV (ks.zip vs) q = none)
  | [], [], vs, q, h, _ => by
    obtain ⟨rfl, _⟩ := h
    rfl
  | [], _ :: _, _, _, _, l => by simp at l
  | _ :: _, [], _, _, _, l => by simp at l
  | k :: ks, d :: ds, vs, q, h, l => by
    obtain ⟨v, vs', e, r1, r2⟩ := h.cons_of
    subst e
    have ih := kget_rep (ks := ks) (ds := ds) (vs := vs') (q := q) r2 (by simpa using l)
    unfold kget
    rw [List.zip_cons_cons]
    by_cases e : k = q
    · rw [if_pos e]
      exact ⟨v, valV_pos e, r1⟩
    · rw [if_neg e, valV_neg (show ¬ (k, v).1 = q from e)]
      exact ih
end

/-! ### in, dicts, by values -/
def rDIn (neg : Bool) : R2 := fun x y H Q => ∃ a o, y = .ref a ∧ DGet H a x o ∧ Q (.bl (if neg then !o.isSome else o.isSome)) H
def rKIn (K : PySem.W.Frag) (w : World) (neg : Bool) : R2 := fun x y H Q => ∃ d es n z r, KDict K w d es n ∧ x = .str z ∧ y = .ref d ∧ PySem.W.nsIn K d z = some r ∧ Q (.bl (if neg then !r.isSome else r.isSome)) H
def rInB (K : PySem.W.Frag) (neg : Bool) : R2 := fun x y H Q => ∃ d ds, Dp K H x d ∧ Dp K H y (.list ds) ∧ SeqAt.shaped d = true ∧ SeqAt.shaped (.list ds) = true ∧ Q (.bl (if neg then !ds.any (fun z => PyData.eqv z d) else ds.any fun z => PyData.eqv z d)) H
/-- an order of data -/
def rOD (K : PySem.W.Frag) (g : PyData → PyData → Bool) : R2 := fun x y H Q => ∃ d e, Dp K H x d ∧ Dp K H y e ∧ PySem.W.alike d e = true ∧ d ≠ PyData.none ∧ min d.depth e.depth ≤ 60 ∧ Q (V.bl (g d e)) H
def rDIx : R2 := fun x y H Q => ∃ a v, x = .ref a ∧ DGet H a y (some v) ∧ Q v H
section
variable {X : Cx}
theorem op_dIn (hu : X.A.units + 1 < cLine) : OpR X (compareOp .In) (rDIn false) := by
  intro pins s σ H x y v u Q I rx ry h
  obtain ⟨a, o, rfl, g, q⟩ := h
  cases ry
  exact d_in hu I g rx fun s' I' => ⟨.bl o.isSome, H, I', rfl, q⟩
theorem op_dNotIn (hu : X.A.units + 1 < cLine) : OpR X (compareOp .NotIn) (rDIn true) := by
  intro pins s σ H x y v u Q I rx ry h
  obtain ⟨a, o, rfl, g, q⟩ := h
  cases ry
  exact d_notIn hu I g rx fun s' I' => ⟨.bl (!o.isSome), H, I', rfl, q⟩
theorem op_kIn : OpR X (compareOp .In) (rKIn X.K X.w false) := by
  intro pins s σ H x y v u Q I rx ry h
  obtain ⟨d, es, n, z, r, kd, ex, ey, e, q⟩ := h
  exact op_in_kd kd pins s σ H x y v u Q I rx ry ⟨z, r, ex, ey, e, q⟩
theorem op_kNotIn : OpR X (compareOp .NotIn) (rKIn X.K X.w true) := by
  intro pins s σ H x y v u Q I rx ry h
  obtain ⟨d, es, n, z, r, kd, ex, ey, e, q⟩ := h
  exact op_notIn_kd kd pins s σ H x y v u Q I rx ry ⟨z, r, ex, ey, e, q⟩
theorem op_inB (hu : X.A.units + 65 < cLine) : OpR X (compareOp .In) (rInB X.K false) := fun pins s σ H x y v u Q I rx ry h => op_inD hu pins s σ H x y v u Q I rx ry h
theorem op_notInB (hu : X.A.units + 65 < cLine) : OpR X (compareOp .NotIn) (rInB X.K true) := fun pins s σ H x y v u Q I rx ry h => op_notInD hu pins s σ H x y v u Q I rx ry h
theorem op_gLt (hu : X.A.units + 64 < cLine) : OpR X (compareOp .Lt) (rOD X.K gLt) := fun pins s σ H x y v u Q I rx ry ⟨d, e, hd, he, al, nn, dp, q⟩ => by
  obtain ⟨as, r1⟩ := Dp.reads I d x v hd rx
  obtain ⟨bs, r2⟩ := Dp.reads I e y u he ry
  exact PySem.W.lt_data r1 r2 al nn (by omega) ⟨.bl _, H, I, rfl, q⟩
theorem op_gLe (hu : X.A.units + 64 < cLine) : OpR X (compareOp .LtE) (rOD X.K gLe) := fun pins s σ H x y v u Q I rx ry ⟨d, e, hd, he, al, nn, dp, q⟩ => by
  obtain ⟨as, r1⟩ := Dp.reads I d x v hd rx
  obtain ⟨bs, r2⟩ := Dp.reads I e y u he ry
  exact PySem.W.le_data r1 r2 al nn (by omega) ⟨.bl _, H, I, rfl, q⟩
theorem op_gGt (hu : X.A.units + 64 < cLine) : OpR X (compareOp .Gt) (rOD X.K gGt) := fun pins s σ H x y v u Q I rx ry ⟨d, e, hd, he, al, nn, dp, q⟩ => by
  obtain ⟨as, r1⟩ := Dp.reads I d x v hd rx
  obtain ⟨bs, r2⟩ := Dp.reads I e y u he ry
  exact PySem.W.gt_data r1 r2 al nn (by omega) ⟨.bl _, H, I, rfl, q⟩
theorem op_gGe (hu : X.A.units + 64 < cLine) : OpR X (compareOp .GtE) (rOD X.K gGe) := fun pins s σ H x y v u Q I rx ry ⟨d, e, hd, he, al, nn, dp, q⟩ => by
  obtain ⟨as, r1⟩ := Dp.reads I d x v hd rx
  obtain ⟨bs, r2⟩ := Dp.reads I e y u he ry
  exact PySem.W.ge_data r1 r2 al nn (by omega) ⟨.bl _, H, I, rfl, q⟩
theorem ix_dict (hu : X.A.units + 1 < cLine) : IxR X rDIx := by
  intro value slice pins s σ H x y v u Q I rx ry h hs
  obtain ⟨a, r, rfl, g, q⟩ := h
  cases rx
  exact tail_any (dict_typeIs I g) PySem.F.slot_dict_getitem.lookup (d_getItem hu I g ry fun w' s' I' rw' => ⟨r, H, I', rw', q⟩) hs
end

section
variable {C : Ctx} {σ : L2.St} {s : Sx} {μ : Sto} {x y : D} {vx vy : V} {Q : VK}
theorem kIn {neg : Bool} {op : Cop} (hop : op = if neg then .notIn else .isIn) (W : Wd C.K C.w s μ) (rx : RepB C.K C.w s x vx) (ry : RepB C.K C.w s y vy)
    (h : ResG C σ (cmpD op x y μ) fun d μ' => ∀ v s' o, Post C.K C.w s s' μ' d v o → Q v s'.H) :
    rIn C.K neg vx vy s.H Q ∨ rDIn neg vx vy s.H Q ∨ rKIn C.K C.w neg vx vy s.H Q ∨ rInB C.K neg vx vy s.H Q := by
  have h' : ∃ b, inD x y = some b ∧ Q (.bl (if neg then !b else b)) s.H := by
    cases neg with
    | false =>
      subst hop
      obtain ⟨d, e, q⟩ := (show ResG C σ (ofO ((inD x y).map D.bl) μ) _ from h).ofO
      obtain ⟨b, e1, e2⟩ := Option.map_eq_some_iff.mp e
      subst e2
      exact ⟨b, e1, nil_post (d := .bl b) W ⟨rfl, rfl⟩ q⟩
    | true =>
      subst hop
      obtain ⟨d, e, q⟩ := (show ResG C σ (ofO ((inD x y).map fun b => D.bl (!b)) μ) _ from h).ofO
      obtain ⟨b, e1, e2⟩ := Option.map_eq_some_iff.mp e
      subst e2
      exact ⟨b, e1, nil_post (d := .bl (!b)) W ⟨rfl, rfl⟩ q⟩
  obtain ⟨b, e, q⟩ := h'
  have seq : ∀ (ds : List D) (a : Addr) (vs : List V), vy = .ref a → (SqL C.K s.H a vs ∨ SqT C.K s.H a vs) → RepL C.K C.w s ds vs [] → (if x.flat && ds.all D.flat then some (L2.inV x.toV (ds.map D.toV)) else none) = some b → rIn C.K neg vx vy s.H Q := by
    intro ds a vs ev hs r e
    by_cases f : (x.flat && ds.all D.flat) = true
    · rw [if_pos f] at e
      cases e
      rw [Bool.and_eq_true] at f
      obtain ⟨e1, f1⟩ := rx.flat f.1
      obtain ⟨e2, f2⟩ := r.flat f.2
      refine ⟨a, vs, ev, hs, f1, f2, ?_⟩
      rw [e1, e2]
      exact q
    · rw [if_neg f] at e
      cases e
  cases y with
  | lst o ds =>
    obtain ⟨a, vs, ev, hq, r⟩ := ry
    by_cases f : (x.flat && ds.all D.flat) = true
    · exact .inl (seq ds a vs ev (.inl hq.sq) r (by rw [if_pos f]; exact (if_pos f).symm.trans e))
    · have e : inP x ds = some b := (if_neg f).symm.trans e
      unfold inP at e
      cases e1 : x.toP with
      | none => rw [e1] at e; cases e
      | some p =>
        cases e2 : D.toPL ds with
        | none => rw [e1, e2] at e; cases e
        | some ps =>
          rw [e1, e2] at e
          have e : (if (SeqAt.shaped p && SeqAt.shaped (.list ps)) = true then some (ps.any fun z => PyData.eqv z p) else none) = some b := e
          by_cases g : (SeqAt.shaped p && SeqAt.shaped (.list ps)) = true
          · rw [if_pos g] at e
            cases e
            rw [Bool.and_eq_true] at g
            exact .inr (.inr (.inr ⟨p, ps, rx.dp e1, by rw [ev]; exact .lst hq.sq (RepL.dp ds vs [] ps r e2), g.1, g.2, q⟩))
          · rw [if_neg g] at e
            cases e
  | tup ds =>
    obtain ⟨a, vs, ev, hq, r⟩ := ry
    exact .inl (seq ds a vs ev (.inr hq) r e)
  | dct o ks ds =>
    cases o with
    | true =>
      obtain ⟨a, vs, ev, hq, l, r⟩ := ry
      obtain ⟨k, e1, e2⟩ := Option.map_eq_some_iff.mp (show (keyOf x).map (fun k => (kget ks ds k).isSome) = some b from e)
      have ex := keyOf_rep rx e1
      refine .inr (.inl ⟨a, valV (ks.zip vs) k, ev, .inl ⟨_, k, hq.1, ex, rfl⟩, ?_⟩)
      have z := kget_rep (q := k) r l
      have eb : (valV (ks.zip vs) k).isSome = b := by
        rw [← e2]
        cases g : kget ks ds k with
        | none => rw [g] at z; rw [show valV (ks.zip vs) k = none from z]; rfl
        | some d => rw [g] at z; obtain ⟨v, zv, _⟩ := z; rw [zv]; rfl
      rw [eb]
      exact q
    | false =>
      cases x with
      | str z0 =>
        have e : some (kget ks ds (.inr z0)).isSome = some b := e
        obtain ⟨a, vs, ev, hq, eo, l, r⟩ := ry
        have z := kget_rep (q := .inr z0) r l
        have eb : (valV (ks.zip vs) (.inr z0 : Key)).isSome = b := by
          rw [← Option.some.inj e]
          cases g : kget ks ds (.inr z0) with
          | none => rw [g] at z; rw [show valV (ks.zip vs) (.inr z0 : Key) = none from z]; rfl
          | some d => rw [g] at z; obtain ⟨v, zv, _⟩ := z; rw [zv]; rfl
        rcases hq with hq | ⟨es, n, kd, hk⟩
        · refine .inr (.inl ⟨a, valV (ks.zip vs) (.inr z0), ev, .inl ⟨_, .inr z0, hq.1, rx.1, rfl⟩, ?_⟩)
          rw [eb]
          exact q
        · have hk := hk z0
          cases g : valV (ks.zip vs) (.inr z0 : Key) with
          | none =>
            rw [g] at hk eb
            refine .inr (.inr (.inl ⟨a, es, n, z0, none, kd, rx.1, ev, hk, ?_⟩))
            rw [← eb] at q
            exact q
          | some v =>
            rw [g] at hk eb
            obtain ⟨u, hu, _⟩ := hk
            refine .inr (.inr (.inl ⟨a, es, n, z0, some u, kd, rx.1, ev, hu, ?_⟩))
            rw [← eb] at q
            exact q
      | _ => simp [inD] at e
  | _ => simp [inD] at e
theorem kEqD {neg : Bool} {op : Cop} (hop : op = if neg then .ne else .eq) (W : Wd C.K C.w s μ) (rx : RepB C.K C.w s x vx) (ry : RepB C.K C.w s y vy)
    (h : ResG C σ (cmpD op x y μ) fun d μ' => ∀ v s' o, Post C.K C.w s s' μ' d v o → Q v s'.H) :
    (∃ d e, Dp C.K s.H vx d ∧ Dp C.K s.H vy e ∧ SeqAt.shaped d = true ∧ SeqAt.shaped e = true ∧ Q (.bl (if neg then !PyData.eqv d e else PyData.eqv d e)) s.H) ∨ (scal vx vy = true ∧ Q (.bl (if neg then !decide (vx = vy) else decide (vx = vy))) s.H) := by
  have h' : ∃ b, D.eqD x y = some b ∧ Q (.bl (if neg then !b else b)) s.H := by
    cases neg with
    | false =>
      subst hop
      obtain ⟨d, e, q⟩ := (show ResG C σ (ofO ((D.eqD x y).map D.bl) μ) _ from h).ofO
      obtain ⟨b, e1, e2⟩ := Option.map_eq_some_iff.mp e
      subst e2
      exact ⟨b, e1, nil_post (d := .bl b) W ⟨rfl, rfl⟩ q⟩
    | true =>
      subst hop
      obtain ⟨d, e, q⟩ := (show ResG C σ (ofO ((D.eqD x y).map fun b => D.bl (!b)) μ) _ from h).ofO
      obtain ⟨b, e1, e2⟩ := Option.map_eq_some_iff.mp e
      subst e2
      exact ⟨b, e1, nil_post (d := .bl (!b)) W ⟨rfl, rfl⟩ q⟩
  obtain ⟨b, e, q⟩ := h'
  unfold D.eqD at e
  cases e1 : x.toP with
  | none => rw [e1] at e; cases e
  | some p =>
    cases e2 : y.toP with
    | none => rw [e1, e2] at e; cases e
    | some p' =>
      rw [e1, e2] at e
      have e : (if (SeqAt.shaped p && SeqAt.shaped p') = true then some (PyData.eqv p p') else eqS x y) = some b := e
      by_cases f : (SeqAt.shaped p && SeqAt.shaped p') = true
      · rw [if_pos f] at e
        cases e
        rw [Bool.and_eq_true] at f
        exact .inl ⟨p, p', rx.dp e1, ry.dp e2, f.1, f.2, q⟩
      · rw [if_neg f] at e
        cases x with
        | str z =>
          cases y with
          | str z' =>
            have ex := rx.1
            have ey := ry.1
            cases e
            have ed : decide (z = z') = decide (vx = vy) := by
              rw [ex, ey]; exact decide_eq_decide.2 ⟨fun h => by rw [h], fun h => V.str.inj h⟩
            rw [ed] at q
            exact .inr ⟨by rw [ex, ey]; rfl, q⟩
          | _ => cases e
        | _ => cases e
theorem kCmpI {op : Cop} {g : Int → Int → Bool} {gp : PyData → PyData → Bool} (h0 : ∀ i j, cmpD op (.int i) (.int j) = M.ret (.bl (g i j))) (h1 : ∀ x y, (∀ i j, ¬ (x = D.int i ∧ y = D.int j)) → cmpD op x y = ordP gp x y)
    (W : Wd C.K C.w s μ) (rx : RepB C.K C.w s x vx) (ry : RepB C.K C.w s y vy) (h : ResG C σ (cmpD op x y μ) fun d μ' => ∀ v s' o, Post C.K C.w s s' μ' d v o → Q v s'.H) :
    rI0 (fun i j => .bl (g i j)) vx vy s.H Q ∨ rOD C.K gp vx vy s.H Q := by
  by_cases e : ∃ i j, x = D.int i ∧ y = D.int j
  · obtain ⟨i, j, rfl, rfl⟩ := e
    rw [h0] at h
    exact .inl ⟨i, j, rx.1, ry.1, nil_post (d := .bl (g i j)) W ⟨rfl, rfl⟩ h.ret⟩
  · rw [h1 x y fun i j z => e ⟨i, j, z⟩] at h
    unfold ordP at h
    cases e1 : x.toP with
    | none => rw [e1] at h; exact h.elim
    | some p =>
      cases e2 : y.toP with
      | none => rw [e1, e2] at h; exact h.elim
      | some q =>
        rw [e1, e2] at h
        obtain ⟨f, h⟩ := (show ResG C σ (guard' (PySem.W.alike p q && !isNoP p && decide (min p.depth q.depth ≤ 60)) (M.ret (D.bl (gp p q))) μ) _ from h).guard
        simp only [Bool.and_eq_true, Bool.not_eq_true', decide_eq_true_eq] at f
        exact .inr ⟨p, q, rx.dp e1, ry.dp e2, f.1.1, (fun z => by rw [z] at f; exact absurd f.1.2 (by decide)), f.2, nil_post (d := .bl (gp p q)) W ⟨rfl, rfl⟩ h.ret⟩
def D.isNon : D → Bool
  | .non => true
  | _ => false
theorem RepB.non_iff (rx : RepB C.K C.w s x vx) : decide (vx = V.non) = x.isNon := by
  cases x with
  | non => rw [rx.1]; rfl
  | bl _ => rw [rx.1]; rfl
  | int _ => rw [rx.1]; rfl
  | str _ => rw [rx.1]; rfl
  | tup _ => obtain ⟨a, vs, e, _⟩ := rx; rw [e]; rfl
  | lst _ _ => obtain ⟨a, vs, e, _⟩ := rx; rw [e]; rfl
  | dct o _ _ => cases o <;> (obtain ⟨a, vs, e, _⟩ := rx; rw [e]; rfl)
  | ref _ => obtain ⟨a, _, e, _⟩ := rx; rw [e]; rfl
  | exn _ _ => exact rx.elim
theorem kIsN {neg : Bool} {op : Cop} (hop : op = if neg then .notN else .isN) (W : Wd C.K C.w s μ) (rx : RepB C.K C.w s x vx) (ry : RepB C.K C.w s y vy)
    (h : ResG C σ (cmpD op x y μ) fun d μ' => ∀ v s' o, Post C.K C.w s s' μ' d v o → Q v s'.H) : vy = .non ∧ Q (.bl (if neg then !decide (vx = .non) else decide (vx = .non))) s.H := by
  rw [rx.non_iff]
  cases y with
  | non =>
    refine ⟨ry.1, ?_⟩
    subst hop
    cases neg with
    | false => cases x <;> exact nil_post (d := .bl _) W ⟨rfl, rfl⟩ h.ret
    | true => cases x <;> exact nil_post (d := .bl _) W ⟨rfl, rfl⟩ h.ret
  | _ => subst hop; cases neg <;> cases x <;> exact h.elim
end
/-- how a comparison is written -/
def copOf : Cop → CmpOp
  | .eq => .Eq | .ne => .NotEq | .lt => .Lt | .le => .LtE | .gt => .Gt | .ge => .GtE | .isN => .Is | .notN => .IsNot | .isIn => .In | .notIn => .NotIn
/-- its reading by values -/
def rCop (K : PySem.W.Frag) (w : World) : Cop → R2
  | .eq => fun x y H Q => rEqD K x y H Q ∨ rEq x y H Q
  | .ne => fun x y H Q => rNeD K x y H Q ∨ rNe x y H Q
  | .lt => fun x y H Q => rI0 (fun i j => V.bl (decide (i < j))) x y H Q ∨ rOD K gLt x y H Q
  | .le => fun x y H Q => rI0 (fun i j => V.bl (decide (i ≤ j))) x y H Q ∨ rOD K gLe x y H Q
  | .gt => fun x y H Q => rI0 (fun i j => V.bl (decide (j < i))) x y H Q ∨ rOD K gGt x y H Q
  | .ge => fun x y H Q => rI0 (fun i j => V.bl (decide (j ≤ i))) x y H Q ∨ rOD K gGe x y H Q
  | .isN => fun x y H Q => y = .non ∧ Q (.bl (decide (x = .non))) H
  | .notN => fun x y H Q => y = .non ∧ Q (.bl (!decide (x = .non))) H
  | .isIn => fun x y H Q => rIn K false x y H Q ∨ rDIn false x y H Q ∨ rKIn K w false x y H Q ∨ rInB K false x y H Q
  | .notIn => fun x y H Q => rIn K true x y H Q ∨ rDIn true x y H Q ∨ rKIn K w true x y H Q ∨ rInB K true x y H Q
theorem op_cop {X : Cx} (hu : X.A.units + 128 < cLine) : ∀ op : Cop, OpR X (compareOp (copOf op)) (rCop X.K X.w op)
  | .eq => (op_eqD (by omega)).or op_eq
  | .ne => (op_neD (by omega)).or op_ne
  | .lt => op_lt.or (op_gLt (by omega))
  | .le => op_le.or (op_gLe (by omega))
  | .gt => op_gt.or (op_gGt (by omega))
  | .ge => op_ge.or (op_gGe (by omega))
  | .isN => op_isN
  | .notN => op_notN
  | .isIn => op_in_seq.or ((op_dIn (by omega)).or (op_kIn.or (op_inB (by omega))))
  | .notIn => op_notIn_seq.or ((op_dNotIn (by omega)).or (op_kNotIn.or (op_notInB (by omega))))
def gOp : Cop → PyData → PyData → Bool
  | .lt => gLt | .le => gLe | .gt => gGt | _ => gGe
theorem cmp_no (op : Cop) (h : op = .lt ∨ op = .le ∨ op = .gt ∨ op = .ge) : ∀ x y, (∀ i j, ¬ (x = D.int i ∧ y = D.int j)) → cmpD op x y = ordP (gOp op) x y := by
  intro x y n
  rcases h with rfl | rfl | rfl | rfl <;> (cases x <;> first | rfl | (cases y <;> first | rfl | exact absurd ⟨rfl, rfl⟩ (n _ _)))
theorem kCop {C : Ctx} {σ : L2.St} {s : Sx} {μ : Sto} {x y : D} {vx vy : V} {Q : VK} (op : Cop) (W : Wd C.K C.w s μ) (rx : RepB C.K C.w s x vx) (ry : RepB C.K C.w s y vy)
    (h : ResG C σ (cmpD op x y μ) fun d μ' => ∀ v s' o, Post C.K C.w s s' μ' d v o → Q v s'.H) : rCop C.K C.w op vx vy s.H Q := by
  cases op with
  | eq => exact kEqD (neg := false) rfl W rx ry h
  | ne => exact kEqD (neg := true) rfl W rx ry h
  | lt => exact kCmpI (op := .lt) (fun _ _ => rfl) (cmp_no _ (by simp)) W rx ry h
  | le => exact kCmpI (op := .le) (fun _ _ => rfl) (cmp_no _ (by simp)) W rx ry h
  | gt => exact kCmpI (op := .gt) (fun _ _ => rfl) (cmp_no _ (by simp)) W rx ry h
  | ge => exact kCmpI (op := .ge) (fun _ _ => rfl) (cmp_no _ (by simp)) W rx ry h
  | isN => exact kIsN (neg := false) rfl W rx ry h
  | notN => exact kIsN (neg := true) rfl W rx ry h
  | isIn => exact kIn (neg := false) rfl W rx ry h
  | notIn => exact kIn (neg := true) rfl W rx ry h
end Vf

/-! V5 -/
set_option autoImplicit false
set_option linter.all false
set_option Elab.async false
set_option maxHeartbeats 1000000
/-! V5: truth, tests, chains, and, or, if-else. -/
namespace Vf
open PySem PySem.Spec PyProof.Rows L2

/-! ### truth -/
theorem isEmpty_len {α β : Type} {xs : List α} {ys : List β} (h : xs.length = ys.length) : xs.isEmpty = ys.isEmpty := by
  cases xs <;> cases ys <;> first | rfl | simp at h
theorem fzL_len : ∀ ds : List D, (D.fzL ds).length = ds.length
  | [] => rfl
  | d :: ds => by
    show (D.fzL ds).length + 1 = ds.length + 1
    rw [fzL_len ds]
theorem truD_fz (d : D) : truD d.fz = truD d := by
  cases d with
  | tup ds => show some (!(D.fzL ds).isEmpty) = some (!ds.isEmpty); rw [isEmpty_len (fzL_len ds)]
  | lst o ds => show some (!(D.fzL ds).isEmpty) = some (!ds.isEmpty); rw [isEmpty_len (fzL_len ds)]
  | _ => rfl
section
variable {K : PySem.W.Frag} {w : World} {s : Sx} {d : D} {v : V} {o : List Addr} {b : Bool}
theorem Rep.tru (h : Rep K w s d v o) (e : truD d = some b) : TruV K v s.H b := by
  cases d with
  | non => rw [h.1]; exact (Option.some.inj e).symm
  | bl x => rw [h.1]; exact (Option.some.inj e).symm
  | int x => rw [h.1]; exact (Option.some.inj e).symm
  | str x =>
    rw [h.1]
    have e : (if x.length ≤ LINE then some ((x.length : Int) != 0) else none) = some b := e
    by_cases g : x.length ≤ LINE
    · rw [if_pos g] at e
      exact ⟨by rw [← line_eq]; exact g, (Option.some.inj e).symm⟩
    · rw [if_neg g] at e; cases e
  | tup ds =>
    obtain ⟨a, vs, ev, q, r⟩ := h
    rw [ev]
    exact .inr (.inl ⟨vs, q, by rw [← Option.some.inj e, isEmpty_len r.len]⟩)
  | lst o ds =>
    cases o with
    | true =>
      obtain ⟨a, vs, o', ev, q, eo, r⟩ := h
      rw [ev]
      exact .inl ⟨vs, .of q, by rw [← Option.some.inj e, isEmpty_len r.len]⟩
    | false =>
      obtain ⟨a, vs, ev, q, eo, r⟩ := h
      rw [ev]
      exact .inl ⟨vs, q.sq, by rw [← Option.some.inj e, isEmpty_len r.len]⟩
  | _ => simp [truD] at e
theorem RepB.tru (h : RepB K w s d v) (e : truD d = some b) : TruV K v s.H b := by
  cases d with
  | lst o ds =>
    obtain ⟨a, vs, ev, q, r⟩ := h
    rw [ev]
    exact .inl ⟨vs, q.sq, by rw [← Option.some.inj e, isEmpty_len r.len]⟩
  | dct o ks vs => simp [truD] at e
  | non => exact Rep.tru (w := w) (d := .non) (o := []) h e
  | bl x => exact Rep.tru (w := w) (d := .bl x) (o := []) h e
  | int x => exact Rep.tru (w := w) (d := .int x) (o := []) h e
  | str x => exact Rep.tru (w := w) (d := .str x) (o := []) h e
  | tup x => exact Rep.tru (w := w) (d := .tup x) (o := []) h e
  | ref x => simp [truD] at e
  | exn x y => simp [truD] at e
end

/-! ### more about results -/
section
variable {C : Ctx} {σ : L2.St} {α β : Type} {μ μ' : Sto}
theorem ResG.bindE {m : M α} {k : α → M β} {F : β → Sto → Prop} (h : ResG C σ (M.bind m k μ) F) : ResG C σ (m μ) fun a μ1 => m μ = .ok a μ1 ∧ ResG C σ (k a μ1) F := by
  unfold M.bind at h
  cases e : m μ with
  | ok a μ1 => rw [e] at h; exact ⟨rfl, h⟩
  | exc c fs μ1 => rw [e] at h; exact h
  | bad => rw [e] at h; exact h.elim
theorem ResG.withE {r : R α} {F : α → Sto → Prop} (h : ResG C σ r F) : ResG C σ r fun a μ1 => r = .ok a μ1 ∧ F a μ1 := by
  cases r with
  | ok a μ1 => exact ⟨rfl, h⟩
  | exc c fs μ1 => exact h
  | bad => exact h.elim
theorem bind_ok {m : M α} {k : α → M β} {b : β} (h : M.bind m k μ = .ok b μ') : ∃ a μ1, m μ = .ok a μ1 ∧ k a μ1 = .ok b μ' := by
  unfold M.bind at h
  cases e : m μ with
  | ok a μ1 => rw [e] at h; exact ⟨a, μ1, rfl, h⟩
  | exc c fs μ1 => rw [e] at h; cases h
  | bad => rw [e] at h; cases h
theorem ofO_ok {o : Option α} {a : α} (h : ofO o μ = .ok a μ') : o = some a ∧ μ' = μ := by
  cases o with
  | none => cases h
  | some x => cases h; exact ⟨rfl, rfl⟩
end
theorem ordP_bl {g : PyData → PyData → Bool} {x y d : D} {μ μ' : Sto} (h : ordP g x y μ = .ok d μ') : ∃ b, d = .bl b := by
  unfold ordP at h
  cases e1 : x.toP with
  | none => rw [e1] at h; cases h
  | some p =>
    cases e2 : y.toP with
    | none => rw [e1, e2] at h; cases h
    | some q =>
      rw [e1, e2] at h
      replace h : guard' (PySem.W.alike p q && !isNoP p && decide (min p.depth q.depth ≤ 60)) (M.ret (D.bl (g p q))) μ = .ok d μ' := h
      cases f : (PySem.W.alike p q && !isNoP p && decide (min p.depth q.depth ≤ 60)) with
      | true => rw [f] at h; cases h; exact ⟨_, rfl⟩
      | false => rw [f] at h; cases h
theorem cmpD_bl {op : Cop} {x y d : D} {μ μ' : Sto} (h : cmpD op x y μ = .ok d μ') : ∃ b, d = .bl b := by
  cases op with
  | eq =>
    obtain ⟨e, _⟩ := ofO_ok (show ofO ((D.eqD x y).map D.bl) μ = _ from h)
    obtain ⟨b, _, e2⟩ := Option.map_eq_some_iff.mp e
    exact ⟨b, e2.symm⟩
  | ne =>
    obtain ⟨e, _⟩ := ofO_ok (show ofO ((D.eqD x y).map fun b => D.bl (!b)) μ = _ from h)
    obtain ⟨b, _, e2⟩ := Option.map_eq_some_iff.mp e
    exact ⟨_, e2.symm⟩
  | isIn =>
    obtain ⟨e, _⟩ := ofO_ok (show ofO ((inD x y).map D.bl) μ = _ from h)
    obtain ⟨b, _, e2⟩ := Option.map_eq_some_iff.mp e
    exact ⟨b, e2.symm⟩
  | notIn =>
    obtain ⟨e, _⟩ := ofO_ok (show ofO ((inD x y).map fun b => D.bl (!b)) μ = _ from h)
    obtain ⟨b, _, e2⟩ := Option.map_eq_some_iff.mp e
    exact ⟨_, e2.symm⟩
  | lt =>
    unfold cmpD at h; dsimp only at h; split at h
    · cases h; exact ⟨_, rfl⟩
    · exact ordP_bl h
  | le =>
    unfold cmpD at h; dsimp only at h; split at h
    · cases h; exact ⟨_, rfl⟩
    · exact ordP_bl h
  | gt =>
    unfold cmpD at h; dsimp only at h; split at h
    · cases h; exact ⟨_, rfl⟩
    · exact ordP_bl h
  | ge =>
    unfold cmpD at h; dsimp only at h; split at h
    · cases h; exact ⟨_, rfl⟩
    · exact ordP_bl h
  | isN => unfold cmpD at h; dsimp only at h; split at h <;> cases h <;> exact ⟨_, rfl⟩
  | notN => unfold cmpD at h; dsimp only at h; split at h <;> cases h <;> exact ⟨_, rfl⟩

/-! ### forms of expressions -/
def plainT : Expr → Bool
  | .UnaryOp .Not _ _ => false
  | .BoolOp .. => false
  | .IfExp .. => false
  | .Compare .. => false
  | _ => true
theorem plainT_ok {e : Expr} (h : plainT e = true) (env : PySem.Env) : ∀ whole, isTrue e env whole = (do let v ← whole; standAt e.pos; holding [v] (truthy v)) := by
  intro whole
  cases e with
  | UnaryOp op a p => cases op <;> first | rfl | cases h
  | BoolOp => cases h
  | IfExp => cases h
  | Compare => cases h
  | _ => rfl
def notSet : Expr → Bool
  | .Set .. => false
  | _ => true
theorem notSet_ok {e : Expr} (h : notSet e = true) (op : CmpOp) : behindInMarks op e = false := by
  cases e <;> first | rfl | cases h
def notSlice : Expr → Bool
  | .Slice .. => false
  | _ => true
theorem notSlice_ok {e : Expr} (h : notSlice e = true) : PlainIx e := by
  intro o i
  cases e <;> first | rfl | cases h
def notStar : Expr → Bool
  | .Starred .. => false
  | _ => true
theorem notStar_ok {e : Expr} (h : notStar e = true) (es : List Expr) (env : PySem.Env) : starEach (e :: es) env = (false, eval e env) :: starEach es env := by
  cases e <;> first | rfl | cases h
theorem noStars : ∀ {es : List Expr}, es.all notStar = true → ∀ (pos : Pos) (env : PySem.Env), (backTo pos (starEach es env)).any (·.1) = false
  | [], _, _, _ => rfl
  | e :: es, h, pos, env => by
    rw [List.all_cons, Bool.and_eq_true] at h
    rw [notStar_ok h.1]
    show (false || (backTo pos (starEach es env)).any (·.1)) = false
    rw [noStars h.2 pos env]
    rfl
def notSetI : Expr → Bool
  | .Set .. => false
  | _ => true
theorem notSetI_ok {e : Expr} (h : notSetI e = true) (env : PySem.Env) : ∀ x, foldedSetIterable e env x = pure x := by
  intro x
  cases e <;> first | rfl | cases h

/-! ### tests -/
abbrev OkW (C : Ctx) (e : Expr) (f : Env → M Bool) : Prop := PW C.X e (tDT C f)
theorem PW_imp {X : Cx} {e : Expr} {t t' : TT} (h : PW X e t) (i : ∀ σ H Q, t' σ H Q → t σ H Q) : PW X e t' := ⟨fun wh pins s σ H Q I q => h.run wh pins s σ H Q I (i σ H Q q)⟩
section
variable {C : Ctx} {e a b c : Expr} {f g h : Env → M D} {pos : Pos}
theorem rd_two {R : V → V → Hp → VK → Prop} (k : D → D → M D) {σ : L2.St} {H : Hp} {Q : VK}
    (hk : ∀ σ s μ x y vx vy Q, Wd C.K C.w s μ → RepB C.K C.w s x vx → RepB C.K C.w s y vy → ResG C σ (k x y μ) (fun d μ' => ∀ v s' o, Post C.K C.w s s' μ' d v o → Q v s'.H) → R vx vy s.H Q)
    (hh : tD C (fun ρ => M.bind (f ρ) fun x => M.bind (g ρ) fun y => k x y) σ H Q) : tOp R (tDB C f) (tDB C g) σ H Q := by
  obtain ⟨s, ρ, own, μ, e1, p, q⟩ := hh
  refine ⟨s, ρ, own, μ, e1, p, q.bind.mono fun x μ1 h1 vx s1 p1 => ?_⟩
  refine ⟨s1, ρ, own, μ1, rfl, p.step p1.ev p1.wd, h1.bind.mono fun y μ2 h2 vy s2 p2 => ?_⟩
  exact hk σ s2 μ2 x y vx vy Q p2.wd (p2.ev.repB p1.wd p1.rep) p2.rep (h2.mono fun d μ' h3 v s' o po => h3 v s' o (po.tr (p1.ev.trans p2.ev)))
def OnlyB (f : Env → M D) : Prop := ∀ ρ μ d μ', f ρ μ = .ok d μ' → ∃ b, d = .bl b
theorem onlyB_cmp (op : Cop) : OnlyB (fun ρ => M.bind (f ρ) fun x => M.bind (g ρ) fun y => cmpD op x y) := fun ρ μ d μ' e => by
  obtain ⟨x, μ1, _, e⟩ := bind_ok e
  obtain ⟨y, μ2, _, e⟩ := bind_ok e
  exact cmpD_bl e
/-- a value as a test -/
abbrev asT (f : Env → M D) : Env → M Bool := fun ρ => M.bind (M.bind (f ρ) (opnd false)) tests
theorem tD_of_T (hb : OnlyB f) {σ : L2.St} {H : Hp} {Q : Bool → Hp → Prop} (hh : tDT C (asT f) σ H Q) : tD C f σ H (fun v H' => ∃ k, v = .bl k ∧ Q k H') := by
  obtain ⟨s, ρ, own, μ, e1, p, q⟩ := hh
  refine ⟨s, ρ, own, μ, e1, p, q.bind.bindE.mono fun d μ1 ⟨he, h1⟩ v s' o po => ?_⟩
  obtain ⟨b, rfl⟩ := hb _ _ _ _ he
  exact ⟨b, po.rep.1, h1.ret.ret s' po.ev po.wd⟩
theorem ok_cmp (hu : C.X.A.units + 128 < cLine) (op : Cop) (ha : OkB C a f) (hb : OkB C b g) (hm : notSet b = true) :
    OkE C (.Compare a [copOf op] [b] pos) (fun ρ => M.bind (f ρ) fun x => M.bind (g ρ) fun y => cmpD op x y) :=
  PE_imp (pe_cmpR (op_cop hu op) ha hb (notSet_ok hm _)) fun σ H Q q => rd_two _ (fun σ s μ x y vx vy Q W rx ry h => kCop op W rx ry h) q
theorem ok_tcmp (hu : C.X.A.units + 128 < cLine) (op : Cop) (ha : OkB C a f) (hb : OkB C b g) (hm : notSet b = true) :
    OkT C (.Compare a [copOf op] [b] pos) (asT fun ρ => M.bind (f ρ) fun x => M.bind (g ρ) fun y => cmpD op x y) :=
  PT_imp (pt_cmpR (op_cop hu op) ha hb (notSet_ok hm _)) fun σ H Q q => rd_two _ (fun σ s μ x y vx vy Q W rx ry h => kCop op W rx ry h) (tD_of_T (onlyB_cmp op) q)
theorem ok_truth (hh : OkB C e g) (he : plainT e = true) : OkT C e (fun ρ => M.bind (g ρ) tests) :=
  PT_imp (pt_truth hh (plainT_ok he _)) fun σ H Q ⟨s, ρ, own, μ, e1, p, q⟩ => ⟨s, ρ, own, μ, e1, p, q.bind.mono fun x μ1 h1 v s1 p1 => by
    obtain ⟨k, e, hF⟩ := (show ResG C σ (ofO (truD x) μ1) _ from h1).ofO
    exact ⟨k, p1.rep.tru e, hF s1 p1.ev p1.wd⟩⟩
def chainK (op op' : Cop) (f g h : Env → M D) : Env → M D := fun ρ => M.bind (f ρ) fun x => M.bind (g ρ) fun y => M.bind (cmpD op x y) fun
    | .bl true => M.bind (h ρ) fun z => cmpD op' y z
    | .bl false => M.ret (.bl false)
    | _ => M.bad
theorem rd_chain (op op' : Cop) {σ : L2.St} {H : Hp} {Q : VK} (hh : tD C (chainK op op' f g h) σ H Q) : tChain (rCop C.K C.w op) (rCop C.K C.w op') (tDB C f) (tDB C g) (tDB C h) σ H Q := by
  obtain ⟨s, ρ, own, μ, e1, p, q⟩ := hh
  refine ⟨s, ρ, own, μ, e1, p, q.bind.mono fun x μ1 h1 vx s1 p1 => ?_⟩
  have pp1 := p.step p1.ev p1.wd
  refine ⟨s1, ρ, own, μ1, rfl, pp1, h1.bind.mono fun y μ2 h2 vy s2 p2 => ?_⟩
  have pp2 := pp1.step p2.ev p2.wd
  refine kCop op p2.wd (p2.ev.repB p1.wd p1.rep) p2.rep (h2.bindE.mono fun d μ3 ⟨he, h3⟩ v s3 o po => ?_)
  obtain ⟨b, rfl⟩ := cmpD_bl he
  refine ⟨b, po.rep.1, ?_⟩
  cases b with
  | true =>
    refine ⟨s3, ρ, own, μ3, rfl, pp2.step po.ev po.wd, h3.bind.mono fun z μ4 h4 vz s4 p4 => ?_⟩
    exact kCop op' p4.wd ((po.ev.trans p4.ev).repB p2.wd p2.rep) p4.rep (h4.mono fun d μ' h5 v s' o pf => h5 v s' o (pf.tr (((p1.ev.trans p2.ev).trans po.ev).trans p4.ev)))
  | false => exact h3.ret (.bl false) s3 [] (Post.scal ((p1.ev.trans p2.ev).trans po.ev) po.wd ⟨rfl, rfl⟩)
theorem onlyB_chain (op op' : Cop) : OnlyB (chainK op op' f g h) := fun ρ μ d μ' e => by
  obtain ⟨x, μ1, _, e⟩ := bind_ok e
  obtain ⟨y, μ2, _, e⟩ := bind_ok e
  obtain ⟨z, μ3, hz, e⟩ := bind_ok e
  obtain ⟨b, rfl⟩ := cmpD_bl hz
  cases b with
  | true =>
    obtain ⟨z, μ4, _, e⟩ := bind_ok e
    exact cmpD_bl e
  | false => cases e; exact ⟨_, rfl⟩
theorem lastMarks_ok (op op' : CmpOp) (hm : notSet c = true) : lastMarks [op, op'] [b, c] = false := notSet_ok hm op'
theorem ok_chain (hu : C.X.A.units + 128 < cLine) (op op' : Cop) (ha : OkB C a f) (hb : OkB C b g) (hc : OkB C c h) (hm : notSet c = true) :
    OkE C (.Compare a [copOf op, copOf op'] [b, c] pos) (chainK op op' f g h) :=
  PE_imp (pe_chain (op_cop hu op) (op_cop hu op') ha hb hc (lastMarks_ok _ _ hm)) fun σ H Q q => rd_chain op op' q
theorem ok_tchain (hu : C.X.A.units + 128 < cLine) (op op' : Cop) (ha : OkB C a f) (hb : OkB C b g) (hc : OkB C c h) (hm : notSet c = true) :
    OkT C (.Compare a [copOf op, copOf op'] [b, c] pos) (asT (chainK op op' f g h)) :=
  PT_imp (pt_chain (op_cop hu op) (op_cop hu op') ha hb hc (lastMarks_ok _ _ hm)) fun σ H Q q => rd_chain op op' (tD_of_T (onlyB_chain op op') q)
/-! not -/
def notK (g : Env → M D) : Env → M D := fun ρ => M.bind (g ρ) fun x => M.bind (tests x) fun b => M.ret (.bl (!b))
theorem ok_not (ha : OkB C a g) : OkE C (.UnaryOp .Not a pos) (notK g) :=
  PE_imp (pe_notT ha) fun σ H Q ⟨s, ρ, own, μ, e1, p, q⟩ => ⟨s, ρ, own, μ, e1, p, q.bind.mono fun x μ1 h1 v s1 p1 => by
    obtain ⟨k, e, hF⟩ := (show ResG C σ (ofO (truD x) μ1) _ from h1.bind).ofO
    exact ⟨k, p1.rep.tru e, hF.ret (.bl (!k)) s1 [] (Post.scal p1.ev p1.wd ⟨rfl, rfl⟩)⟩⟩
theorem ok_tnot {t : Env → M Bool} (ha : OkT C a (fun ρ => M.bind (g ρ) tests)) : OkT C (.UnaryOp .Not a pos) (asT (notK g)) :=
  PT_imp (pt_not ha) fun σ H Q ⟨s, ρ, own, μ, e1, p, q⟩ => ⟨s, ρ, own, μ, e1, p, by
    have q : ResG C σ (M.bind (M.bind (M.bind (g ρ) fun x => M.bind (tests x) fun b => M.ret (.bl (!b))) (opnd false)) tests μ) _ := q
    have q2 := q.bind.bind.bind
    show ResG C σ (M.bind (g ρ) tests μ) _
    unfold M.bind
    cases hg : g ρ μ with
    | ok x μ1 =>
      rw [hg] at q2
      have q3 := (show ResG C σ (M.bind (tests x) (fun b => M.ret (D.bl (!b))) μ1) _ from q2).bind
      exact q3.mono fun b μ2 h s' ev wd => h.ret.ret.ret s' ev wd
    | exc c fs μ1 => rw [hg] at q2; exact q2
    | bad => rw [hg] at q2; exact q2.elim⟩
/-! and, or -/
def andK (f g : Env → M D) : Env → M D := fun ρ => M.bind (f ρ) fun x => M.bind (tests x) fun | true => g ρ | false => M.ret x
def orK (f g : Env → M D) : Env → M D := fun ρ => M.bind (f ρ) fun x => M.bind (tests x) fun | true => M.ret x | false => g ρ
variable {rest : List Expr}
theorem ok_one {op : BoolOp} (h : OkE C a f) : OkE C (.BoolOp op [a] pos) f := pe_one h
theorem ok_and (ha : OkE C a f) (hb : OkE C (.BoolOp .And (b :: rest) pos) g) : OkE C (.BoolOp .And (a :: b :: rest) pos) (andK f g) :=
  PE_imp (pe_andT ha hb) fun σ H Q ⟨s, ρ, own, μ, e1, p, q⟩ => ⟨s, ρ, own, μ, e1, p, q.bind.mono fun x μ1 h1 v s1 o p1 => by
    obtain ⟨k, e, hF⟩ := (show ResG C σ (ofO (truD x) μ1) _ from h1.bind).ofO
    refine ⟨k, p1.rep.tru e, ?_⟩
    cases k with
    | true => exact ⟨s1, ρ, own, μ1, rfl, p.step p1.ev p1.wd, hF.mono fun d μ' h v s' o po => h v s' o (po.tr p1.ev)⟩
    | false => exact hF.ret v s1 o p1⟩
theorem ok_or (ha : OkE C a f) (hb : OkE C (.BoolOp .Or (b :: rest) pos) g) : OkE C (.BoolOp .Or (a :: b :: rest) pos) (orK f g) :=
  PE_imp (pe_orT ha hb) fun σ H Q ⟨s, ρ, own, μ, e1, p, q⟩ => ⟨s, ρ, own, μ, e1, p, q.bind.mono fun x μ1 h1 v s1 o p1 => by
    obtain ⟨k, e, hF⟩ := (show ResG C σ (ofO (truD x) μ1) _ from h1.bind).ofO
    refine ⟨k, p1.rep.tru e, ?_⟩
    cases k with
    | false => exact ⟨s1, ρ, own, μ1, rfl, p.step p1.ev p1.wd, hF.mono fun d μ' h v s' o po => h v s' o (po.tr p1.ev)⟩
    | true => exact hF.ret v s1 o p1⟩
theorem tests_fz (x : D) : M.bind (opnd false x) tests = tests x := by
  show tests x.fz = tests x
  show ofO (truD x.fz) = ofO (truD x)
  rw [truD_fz]
theorem ok_w1 {op : BoolOp} {t : Env → M Bool} (ha : OkT C a t) : OkW C (.BoolOp op [a] pos) t := by
  cases op with
  | And => exact pw_and1 ha
  | Or => exact pw_or1 ha
theorem asT_res {ρ : Env} {μ : Sto} {σ : L2.St} {F : Bool → Sto → Prop} : ResG C σ (asT f ρ μ) F ↔ ResG C σ (f ρ μ) fun x μ1 => ResG C σ (tests x μ1) F := by
  show ResG C σ (M.bind (M.bind (f ρ) (opnd false)) tests μ) F ↔ _
  unfold M.bind
  cases hf : f ρ μ with
  | ok x μ1 =>
    have e : tests x.fz μ1 = tests x μ1 := congrFun (tests_fz x) μ1
    show ResG C σ (tests x.fz μ1) F ↔ ResG C σ (tests x μ1) F
    rw [e]
  | exc c fs μ1 => exact Iff.rfl
  | bad => exact Iff.rfl
theorem tests_ok {x : D} {μ : Sto} {σ : L2.St} {F : Bool → Sto → Prop} (h : ResG C σ (tests x μ) F) : ∃ b, truD x = some b ∧ tests x μ = .ok b μ ∧ F b μ := by
  obtain ⟨b, e, hF⟩ := (show ResG C σ (ofO (truD x) μ) _ from h).ofO
  exact ⟨b, e, by show ofO (truD x) μ = _; rw [e]; rfl, hF⟩
theorem ok_tand (ha : OkT C a (asT f)) (hb : OkW C (.BoolOp .And (b :: rest) pos) (asT g)) : OkW C (.BoolOp .And (a :: b :: rest) pos) (asT (andK f g)) :=
  PW_imp (pw_and ha hb) fun σ H Q ⟨s, ρ, own, μ, e1, p, q⟩ => ⟨s, ρ, own, μ, e1, p, by
    have q := (asT_res.mp q).bind
    refine asT_res.mpr (q.mono fun x μ1 h1 => ?_)
    obtain ⟨b, e, et, h2⟩ := tests_ok h1.bind
    rw [et]
    cases b with
    | true =>
      intro s1 ev wd
      refine ⟨s1, ρ, own, μ1, rfl, p.step ev wd, asT_res.mpr (ResG.mono h2 fun y μ2 h3 => h3.mono fun k μ3 h4 s' ev' wd' => h4 s' (ev.trans ev') wd')⟩
    | false =>
      obtain ⟨k, ek, _, h3⟩ := tests_ok h2.ret
      rw [e] at ek
      cases ek
      exact fun s1 ev wd => h3 s1 ev wd⟩
theorem ok_tor (ha : OkT C a (asT f)) (hb : OkW C (.BoolOp .Or (b :: rest) pos) (asT g)) : OkW C (.BoolOp .Or (a :: b :: rest) pos) (asT (orK f g)) :=
  PW_imp (pw_or ha hb) fun σ H Q ⟨s, ρ, own, μ, e1, p, q⟩ => ⟨s, ρ, own, μ, e1, p, by
    have q := (asT_res.mp q).bind
    refine asT_res.mpr (q.mono fun x μ1 h1 => ?_)
    obtain ⟨b, e, et, h2⟩ := tests_ok h1.bind
    rw [et]
    cases b with
    | false =>
      intro s1 ev wd
      refine ⟨s1, ρ, own, μ1, rfl, p.step ev wd, asT_res.mpr (ResG.mono h2 fun y μ2 h3 => h3.mono fun k μ3 h4 s' ev' wd' => h4 s' (ev.trans ev') wd')⟩
    | true =>
      obtain ⟨k, ek, _, h3⟩ := tests_ok h2.ret
      rw [e] at ek
      cases ek
      exact fun s1 ev wd => h3 s1 ev wd⟩
/-! a if c else b -/
def ifK (t : Env → M Bool) (f g : Env → M D) : Env → M D := fun ρ => M.bind (t ρ) fun | true => f ρ | false => g ρ
theorem ok_ife {t : Env → M Bool} (hc : OkT C c t) (ha : OkE C a f) (hb : OkE C b g) : OkE C (.IfExp c a b pos) (ifK t f g) :=
  PE_imp (pe_ifExp hc ha hb) fun σ H Q ⟨s, ρ, own, μ, e1, p, q⟩ => ⟨s, ρ, own, μ, e1, p, q.bind.mono fun k μ1 h1 s1 ev wd => by
    cases k with
    | true => exact ⟨s1, ρ, own, μ1, rfl, p.step ev wd, ResG.mono h1 fun d μ' h v s' o po => h v s' o (po.tr ev)⟩
    | false => exact ⟨s1, ρ, own, μ1, rfl, p.step ev wd, ResG.mono h1 fun d μ' h v s' o po => h v s' o (po.tr ev)⟩⟩
end
end Vf

/-! V6 -/
set_option autoImplicit false
set_option linter.all false
set_option Elab.async false
set_option maxHeartbeats 1000000
/-! V6: argument lists, displays, subscripts, slices, built-ins, calls. -/
namespace Vf
open PySem PySem.Spec PyProof.Rows L2

/-! ### argument lists -/
section
variable {C : Ctx} {e a b : Expr} {es : List Expr} {f g : Env → M D} {ga : Env → M (List D)} {pos : Pos}
theorem ok_anil : OkA C [] (fun _ => M.ret []) := PA_imp pa_nil fun σ H Q ⟨s, ρ, own, μ, e1, p, q⟩ => by
  show Q [] H
  rw [← e1]
  exact q.ret [] s [] (Ev.refl s) p.wd ⟨rfl, rfl⟩ List.nodup_nil fun _ z => nomatch z
def consK (f : Env → M D) (ga : Env → M (List D)) : Env → M (List D) := fun ρ => M.bind (f ρ) fun d => M.bind (ga ρ) fun ds => M.ret (d :: ds)
theorem ok_acons (ha : OkE C e f) (hr : OkA C es ga) (hs : notStar e = true) : OkA C (e :: es) (consK f ga) :=
  PA_imp (pa_cons ha hr (notStar_ok hs es _)) fun σ H Q ⟨s, ρ, own, μ, e1, p, q⟩ => ⟨s, ρ, own, μ, e1, p, q.bind.mono fun d μ1 h1 v s1 o po =>
    ⟨s1, ρ, own, μ1, rfl, p.step po.ev po.wd, h1.bind.mono fun ds μ2 h2 vs s2 o2 ev wd r nd ow => by
      have hd := ev.rep po.wd po.rep fun a ha => ⟨(po.ow a ha).1, (po.ow a ha).2.2⟩
      refine h2.ret (v :: vs) s2 (o ++ o2) (po.ev.trans ev) wd ⟨v, vs, o, o2, rfl, rfl, hd, r⟩ ?_ fun a ha => ?_
      · exact List.nodup_append.mpr ⟨po.nd, nd, fun a ha b hb e => (ow b hb).2.1 (by rw [← e]; exact (po.ow a ha).1)⟩
      · rcases List.mem_append.mp ha with h | h
        · have := ev.ownS po.wd (o := o) (fun a ha => ⟨(po.ow a ha).1, (po.ow a ha).2.2⟩) a h
          exact ⟨this.1, (po.ow a h).2.1, this.2⟩
        · exact ⟨(ow a h).1, fun z => (ow a h).2.1 (po.ev.up a z), (ow a h).2.2⟩⟩⟩
theorem ok_tup {k : Nat} (h : OkA C es ga) : OkE C (.Tuple es k pos) (fun ρ => M.bind (ga ρ) fun ds => tTup ds) :=
  PE_imp (pe_tup h) fun σ H Q ⟨s, ρ, own, μ, e1, p, q⟩ => ⟨s, ρ, own, μ, e1, p, q.bind.mono fun ds μ1 h1 vs s1 o ev wd r nd ow => by
    obtain ⟨g, h1⟩ := (show ResG C σ (tTup ds μ1) _ from h1).guard
    exact ⟨by rw [← line_eq, ← r.len]; exact of_decide_eq_true g, fun p hp => h1.ret (.ref p) (s1.tup p (.tup vs)) o (Post.newT ev wd r nd ow hp)⟩⟩
theorem ok_lst (h : OkA C es ga) : OkE C (.List es pos) (fun ρ => M.bind (ga ρ) fun ds => tLst true ds) :=
  PE_imp (pe_lst h) fun σ H Q ⟨s, ρ, own, μ, e1, p, q⟩ => ⟨s, ρ, own, μ, e1, p, q.bind.mono fun ds μ1 h1 vs s1 o ev wd r nd ow => by
    obtain ⟨g, h1⟩ := (show ResG C σ (tLst true ds μ1) _ from h1).guard
    exact ⟨by rw [← line_eq, ← r.len]; exact of_decide_eq_true g, fun p hp => h1.ret (.ref p) (s1.own p (.lst vs)) (p :: o) (Post.newL ev wd r nd ow hp)⟩⟩
/-! a new shared object -/
def Sx.shr (s : Sx) (p : Addr) (u : HO) : Sx := { H := upd s.H p u, O := fun a => s.O a ∨ a = p, ι := s.ι ++ [p] }
theorem Post.newR {K : PySem.W.Frag} {w : World} {s s1 : Sx} {μ : Sto} {ds : List D} {vs : List V} {p : Addr} (e : Ev s s1) (W : Wd K w s1 μ) (r : RepL K w s1 ds vs []) (h : s1.H p = none) :
    Post K w s (s1.shr p (.lst vs)) (μ ++ [ds]) (.ref μ.length) (.ref p) [] := by
  have hp : p ∉ s1.ι := fun z => mut_ne (W.mt p (W.sub p z)) h
  have ev : Ev s1 (s1.shr p (.lst vs)) := ⟨fun a x q _ => by show upd s1.H p _ a = _; rw [upd_ne (ne_of_none q h)]; exact q, ⟨[p], rfl, fun a ha => (show a = p by simpa using ha) ▸ h⟩,
    fun a q => .inl q, fun a q => q.elim .inl fun e => .inr (by rw [e]; exact h), fun a q => by
      have q' : upd s1.H p (.lst vs) a = none := q
      by_cases e : a = p
      · rw [e, upd_same] at q'; cases q'
      · rw [upd_ne e] at q'; exact q'⟩
  refine Post.scal (e.trans ev) ⟨fun a q => ?_, fun a q => ?_, ?_, ?_, fun n a ds' h1 h2 => ?_⟩ ⟨p, ?_, rfl, rfl⟩
  · show Mut (upd s1.H p (.lst vs) a)
    by_cases e : a = p
    · rw [e, upd_same]; exact trivial
    · rw [upd_ne e]
      rcases q with q | q
      · exact W.mt a q
      · exact absurd q e
  · rcases List.mem_append.mp (show a ∈ s1.ι ++ [p] from q) with q | q
    · exact .inl (W.sub a q)
    · exact .inr (by simpa using q)
  · exact List.nodup_append.mpr ⟨W.nd, by simp, fun a ha b hb e => hp ((show b = p by simpa using hb) ▸ e ▸ ha)⟩
  · show (s1.ι ++ [p]).length = (μ ++ [ds]).length
    simp [W.len]
  · have h1 : (s1.ι ++ [p])[n]? = some a := h1
    by_cases hn : n < s1.ι.length
    · rw [List.getElem?_append_left hn] at h1
      rw [List.getElem?_append_left (by rw [← W.len]; exact hn)] at h2
      obtain ⟨us, h3, h4⟩ := W.at_ n a ds' h1 h2
      exact ⟨us, by show upd s1.H p _ a = _; rw [upd_ne (ne_of_none h3 h)]; exact h3, ev.repL W h4⟩
    · rw [List.getElem?_append_right (by omega)] at h1
      rw [List.getElem?_append_right (by rw [← W.len]; omega)] at h2
      have e0 : n - s1.ι.length = 0 := by
        have := (List.getElem?_eq_some_iff.mp h1).1
        simp at this
        omega
      rw [e0] at h1
      rw [← W.len, e0] at h2
      cases h1
      cases h2
      exact ⟨vs, upd_same, ev.repL W r⟩
  · show (s1.ι ++ [p])[μ.length]? = some p
    rw [← W.len]
    simp
theorem ok_newRef (h : OkA C es ga) : OkE C (.List es pos) (fun ρ => M.bind (ga ρ) fun ds => guard' (decide (ds.length ≤ LINE) && D.nbL (ds.map D.fz)) fun μ => .ok (.ref μ.length) (μ ++ [ds.map D.fz])) :=
  PE_imp (pe_lst h) fun σ H Q ⟨s, ρ, own, μ, e1, p, q⟩ => ⟨s, ρ, own, μ, e1, p, q.bind.mono fun ds μ1 h1 vs s1 o ev wd r nd ow => by
    obtain ⟨g, h1⟩ := ResG.guard h1
    rw [Bool.and_eq_true] at g
    refine ⟨by rw [← line_eq, ← r.len]; exact of_decide_eq_true g.1, fun p hp => ?_⟩
    have W := wd.less fun a ha => (ow a ha).2.2
    have em : ∀ ds : List D, D.fzL ds = ds.map D.fz := by
      intro ds
      induction ds with
      | nil => rfl
      | cons d ds ih => show d.fz :: D.fzL ds = _; rw [ih]; rfl
    have r' : RepL C.K C.w (s1.less o) (ds.map D.fz) vs [] := by rw [← em]; exact RepL.fz ds vs o r fun a ha => ha
    have h2 : ∀ v s' o, Post C.K C.w s s' (μ1 ++ [ds.map D.fz]) (.ref μ1.length) v o → Q v s'.H := h1
    exact h2 (.ref p) ((s1.less o).shr p (.lst vs)) [] (Post.newR (ev.less fun a ha => (ow a ha).2.1) W r' hp)⟩
/-! empty dict; one key -/
theorem ok_dct0 : OkE C (.Dict [] [] pos) (fun _ => M.ret (.dct true [] [])) :=
  PE_imp pe_dnewK fun σ H Q ⟨s, ρ, own, μ, e1, p, q⟩ => by
    subst e1
    exact fun p' hp => q.ret (.ref p') (s.own p' (.dK (([] : List Key).zip []))) [p'] (Post.newD (ds := []) (vs := []) (ks := []) (Ev.refl s) p.wd rfl ⟨rfl, rfl⟩ hp)
def dct1K (f g : Env → M D) : Env → M D := fun ρ => M.bind (f ρ) fun k => M.bind (g ρ) fun v => match keyOf k with
      | some k => guard' v.nb (M.ret (.dct true [k] [v]))
      | none => M.bad
theorem Rep.key {K : PySem.W.Frag} {w : World} {s : Sx} {d : D} {v : V} {o : List Addr} {k : Key} (h : Rep K w s d v o) (e : keyOf d = some k) : v = kV k ∧ o = [] := by
  cases d with
  | int i => cases e; exact h
  | str i => cases e; exact h
  | _ => simp [keyOf] at e
/-! an owned object is written -/
def Sx.put (s : Sx) (p : Addr) (u : HO) : Sx := { s with H := upd s.H p u }
theorem Kp.put {K : PySem.W.Frag} {w : World} {s : Sx} {μ : Sto} {p : Addr} {u : HO} (W : Wd K w s μ) (hp : s.O p) : Kp s (s.put p u) :=
  ⟨W.mt, fun a x h n => by
    show upd s.H p u a = _
    rw [upd_ne (fun e => n (by rw [e]; exact hp))]; exact h, fun a h => .inl h, ⟨[], by simp [Sx.put], fun _ z => nomatch z⟩⟩
theorem Wd.put {K : PySem.W.Frag} {w : World} {s : Sx} {μ : Sto} {p : Addr} {u : HO} (W : Wd K w s μ) (hp : s.O p) (hn : p ∉ s.ι) (mu : Mut (some u)) : Wd K w (s.put p u) μ :=
  ⟨fun a h => by
    show Mut (upd s.H p u a)
    by_cases e : a = p
    · rw [e, upd_same]; exact mu
    · rw [upd_ne e]; exact W.mt a h, W.sub, W.nd, W.len, fun n a ds h1 h2 => by
    obtain ⟨vs, h3, h4⟩ := W.at_ n a ds h1 h2
    have e : a ≠ p := fun e => hn (by rw [← e]; exact (List.getElem?_eq_some_iff.mp h1).2 ▸ List.getElem_mem _)
    exact ⟨vs, by show upd s.H p u a = _; rw [upd_ne e]; exact h3, RepL.keep (Kp.put W hp) ds vs [] h4 fun _ z => nomatch z⟩⟩
theorem ok_dct1 (ha : OkE C a f) (hb : OkE C b g) : OkE C (.Dict [some a] [b] pos) (dct1K f g) :=
  PE_imp (pe_disp (keys := [some a]) (values := [b]) (pps_cons ha hb pps_nil) rfl rfl (List.cons_ne_nil _ _) (show (1 : Nat) ≤ 15 by decide)) fun σ H Q ⟨s, ρ, own, μ, e1, p, q⟩ => by
    subst e1
    intro P hP
    have e0 : Ev s (s.own P (.dK [])) := Ev.ownN hP
    have W0 : Wd C.K C.w (s.own P (.dK [])) μ := p.wd.ownN hP trivial
    refine ⟨s.own P (.dK []), ρ, own, μ, rfl, p.step e0 W0, q.bind.mono fun k μ1 h1 vk s1 ok pk => ?_⟩
    refine ⟨s1, ρ, own, μ1, rfl, (p.step e0 W0).step pk.ev pk.wd, h1.bind.mono fun v μ2 h2 vv s2 ov pv => ?_⟩
    cases ek : keyOf k with
    | none => rw [ek] at h2; exact h2.elim
    | some key =>
      rw [ek] at h2
      obtain ⟨nb, h2⟩ := ResG.guard h2
      have eo := Rep.nb _ _ _ pv.rep nb
      obtain ⟨evk, _⟩ := pk.rep.key ek
      have e2 := pk.ev.trans pv.ev
      have hP2 : s2.H P = some (.dK []) := e2.ext P _ upd_same fun z => mut_ne (p.wd.mt P (p.wd.sub P z)) hP
      have oP : s2.O P := e2.up P (.inr rfl)
      have nP : P ∉ s2.ι := e2.noIn (by rw [show (s.own P (.dK [])).H P = some (.dK []) from upd_same]; simp) fun z => mut_ne (p.wd.mt P (p.wd.sub P z)) hP
      refine ⟨hP2, [(key, vv)], by rw [evk]; rfl, (show (1 : Nat) ≤ 15 by decide), ?_⟩
      refine h2.ret (.ref P) (s2.put P (.dK [(key, vv)])) [P] ⟨?_, pv.wd.put oP nP trivial, ⟨P, [vv], rfl, upd_same, rfl, rfl, ?_⟩, by simp, fun a ha => ?_⟩
      · have et := e0.trans e2
        exact ⟨fun a x h n => by
          show upd s2.H P _ a = _
          rw [upd_ne (ne_of_none h hP)]; exact et.ext a x h n, et.pre, et.up, et.dn, fun a h => by
          have h : upd s2.H P _ a = none := h
          by_cases e : a = P
          · rw [e]; exact hP
          · rw [upd_ne e] at h; exact et.live a h⟩
      · rw [eo] at pv
        exact RepL.cons (Rep.keep (Kp.put pv.wd oP) _ _ _ pv.rep fun _ z => nomatch z) ⟨rfl, rfl⟩
      · have e' : a = P := by simpa using ha
        rw [e']
        exact ⟨oP, fun z => mut_ne (p.wd.mt P z) hP, nP⟩
end
/-! ### subscripts -/
theorem atI_map {α β : Type} {xs : List α} {ys : List β} {i : Int} {d : α} (hl : xs.length = ys.length) (h : atI xs i = some d) : ∃ j : Nat, xs[j]? = some d ∧ atI ys i = ys[j]? := by
  unfold atI at h ⊢
  rw [← hl]
  cases e : ixN xs.length i with
  | none => rw [e] at h; cases h
  | some j => rw [e] at h; exact ⟨j, h, rfl⟩
theorem RepL.atI {K : PySem.W.Frag} {w : World} {s : Sx} {ds : List D} {vs : List V} {i : Int} {d : D} (r : RepL K w s ds vs []) (h : L2.atI ds i = some d) : ∃ v, L2.atI vs i = some v ∧ Rep K w s d v [] := by
  obtain ⟨j, h1, h2⟩ := atI_map r.len h
  obtain ⟨v, h3, h4⟩ := r.at_ h1
  exact ⟨v, by rw [h2]; exact h3, h4⟩
theorem getD'_ok {C : Ctx} {σ : L2.St} {ds : List D} {i : Int} {μ : Sto} {F : D → Sto → Prop} (h : ResG C σ (getD' ds i μ) F) : ∃ d, L2.atI ds i = some d ∧ F d μ := by
  unfold getD' at h
  cases e : L2.atI ds i with
  | none => rw [e] at h; exact h.elim
  | some d => rw [e] at h; exact ⟨d, rfl, h⟩
def rIxAll (K : PySem.W.Frag) (w : World) : R2 := fun x y H Q => rIx K x y H Q ∨ rDIx x y H Q ∨ rIxD K w x y H Q
theorem ix_all {X : Cx} (hu : X.A.units + 64 < cLine) : IxR X (rIxAll X.K X.w) := ix_seq.or ((ix_dict (by omega)).or ix_kdict)
section
variable {C : Ctx} {σ : L2.St} {s : Sx} {μ : Sto} {x y : D} {vx vy : V} {o : List Addr} {Q : VK}
theorem kIdx (W : Wd C.K C.w s μ) (rx : RepB C.K C.w s x vx) (ry : Rep C.K C.w s y vy o) (h : ResG C σ (idxD x y μ) fun d μ' => ∀ v s' o, Post C.K C.w s s' μ' d v o → Q v s'.H) : rIxAll C.K C.w vx vy s.H Q := by
  cases x with
  | tup ds =>
    cases y with
    | int i =>
      obtain ⟨d, e, h⟩ := getD'_ok h
      obtain ⟨a, vs, ev, hq, r⟩ := rx
      obtain ⟨v, e1, e2⟩ := r.atI e
      exact .inl (.inr (.inl ⟨a, vs, i, v, ev, ry.1, hq, e1, nil_post W e2 h⟩))
    | _ => exact h.elim
  | lst b ds =>
    cases y with
    | int i =>
      obtain ⟨d, e, h⟩ := getD'_ok h
      obtain ⟨a, vs, ev, hq, r⟩ := rx
      obtain ⟨v, e1, e2⟩ := r.atI e
      exact .inl (.inl ⟨a, vs, i, v, ev, ry.1, hq.sq, e1, nil_post W e2 h⟩)
    | _ => exact h.elim
  | ref n =>
    cases y with
    | int i =>
      obtain ⟨a, en, ev, _⟩ := rx
      have h : ResG C σ (match μ[n]? with | some ds => getD' ds i μ | none => .bad) fun d μ' => ∀ v s' o, Post C.K C.w s s' μ' d v o → Q v s'.H := h
      cases em : μ[n]? with
      | none => rw [em] at h; exact h.elim
      | some ds =>
        rw [em] at h
        obtain ⟨d, e, h⟩ := getD'_ok h
        obtain ⟨vs, hq, r⟩ := W.at_ n a ds en em
        obtain ⟨v, e1, e2⟩ := r.atI e
        exact .inl (.inl ⟨a, vs, i, v, ev, ry.1, .of hq, e1, nil_post W e2 h⟩)
    | _ => exact h.elim
  | dct b ks ds =>
    cases b with
    | true =>
      have h : ResG C σ ((match keyOf y with | some k => ofO (kget ks ds k) | none => M.bad : M D) μ) fun d μ' => ∀ v s' o, Post C.K C.w s s' μ' d v o → Q v s'.H := h
      cases ek : keyOf y with
      | none => rw [ek] at h; exact h.elim
      | some k =>
        rw [ek] at h
        obtain ⟨d, e, h⟩ := h.ofO
        obtain ⟨a, vs, ev, hq, l, r⟩ := rx
        have z := kget_rep (q := k) r l
        rw [e] at z
        obtain ⟨v, e1, e2⟩ := z
        exact .inr (.inl ⟨a, v, ev, .inl ⟨_, k, hq.1, (ry.key ek).1, e1.symm⟩, nil_post W e2 h⟩)
    | false =>
      cases y with
      | str z0 =>
        obtain ⟨d, e, h⟩ := (show ResG C σ (ofO (kget ks ds (.inr z0)) μ) _ from h).ofO
        obtain ⟨a, vs, ev, hq, eo, l, r⟩ := rx
        have z := kget_rep (q := .inr z0) r l
        rw [e] at z
        obtain ⟨v, e1, e2⟩ := z
        rcases hq with hq | ⟨es, n, kd, hk⟩
        · exact .inr (.inl ⟨a, v, ev, .inl ⟨_, .inr z0, hq.1, ry.1, e1.symm⟩, nil_post W e2 h⟩)
        · have hk := hk z0
          rw [e1] at hk
          obtain ⟨u, h1, h2⟩ := hk
          exact .inr (.inr ⟨a, z0, v, ev, ry.1, ⟨es, n, u, kd.at_, kd.lit, h1, h2⟩, nil_post W e2 h⟩)
      | _ => exact h.elim
  | non => exact h.elim
  | bl _ => exact h.elim
  | int _ => exact h.elim
  | str _ => exact h.elim
  | exn _ _ => exact h.elim
end
section
variable {C : Ctx} {e a b : Expr} {f g : Env → M D} {pos : Pos}
/-- the second as it is -/
theorem rd_twoE {R : V → V → Hp → VK → Prop} (k : D → D → M D) {σ : L2.St} {H : Hp} {Q : VK}
    (hk : ∀ σ s μ x y vx vy o Q, Wd C.K C.w s μ → RepB C.K C.w s x vx → Rep C.K C.w s y vy o → ResG C σ (k x y μ) (fun d μ' => ∀ v s' o, Post C.K C.w s s' μ' d v o → Q v s'.H) → R vx vy s.H Q)
    (hh : tD C (fun ρ => M.bind (f ρ) fun x => M.bind (g ρ) fun y => k x y) σ H Q) : tOp R (tDB C f) (tD C g) σ H Q := by
  obtain ⟨s, ρ, own, μ, e1, p, q⟩ := hh
  refine ⟨s, ρ, own, μ, e1, p, q.bind.mono fun x μ1 h1 vx s1 p1 => ?_⟩
  refine ⟨s1, ρ, own, μ1, rfl, p.step p1.ev p1.wd, h1.bind.mono fun y μ2 h2 vy s2 o p2 => ?_⟩
  exact hk σ s2 μ2 x y vx vy o Q p2.wd (p2.ev.repB p1.wd p1.rep) p2.rep (h2.mono fun d μ' h3 v s' o po => h3 v s' o (po.tr (p1.ev.trans p2.ev)))
theorem ok_idx (hu : C.X.A.units + 64 < cLine) (ha : OkB C a f) (hb : OkE C b g) (hs : notSlice b = true) : OkE C (.Subscript a b pos) (fun ρ => M.bind (f ρ) fun x => M.bind (g ρ) fun y => idxD x y) :=
  PE_imp (pe_ix (ix_all hu) ha hb (notSlice_ok hs)) fun σ H Q q => rd_twoE _ (fun σ s μ x y vx vy o Q W rx ry h => kIdx W rx ry h) q
end
end Vf

/-! VM -/
set_option autoImplicit false
set_option linter.all false
set_option Elab.async false
set_option maxHeartbeats 1000000
/-! VM: list + list, the parts are as they were. -/
namespace Vf
open PySem PySem.Spec PyProof.Rows L2
theorem Rep.lstAny {K : PySem.W.Frag} {w : World} {s : Sx} {b : Bool} {ds : List D} {v : V} {o : List Addr} (h : Rep K w s (.lst b ds) v o) : ∃ a vs o', v = .ref a ∧ SqL K s.H a vs ∧ RepL K w s ds vs o' ∧ (∀ c ∈ o', c ∈ o) ∧ (o.Nodup → o'.Nodup) := by
  cases b with
  | true =>
    obtain ⟨a, vs, o', ev, hH, eo, r⟩ := h
    subst eo
    exact ⟨a, vs, o', ev, .of hH, r, fun c hc => List.mem_cons_of_mem _ hc, fun n => (List.nodup_cons.mp n).2⟩
  | false =>
    obtain ⟨a, vs, ev, hq, eo, r⟩ := h
    subst eo
    exact ⟨a, vs, [], ev, hq.sq, r, (fun _ z => z), id⟩
theorem addMD_ok {C : Ctx} {σ : L2.St} {x y : D} {μ : Sto} {F : D → Sto → Prop} (h : ResG C σ (addMD x y μ) F) : ∃ b as b' bs, x = .lst b as ∧ y = .lst b' bs ∧ (as ++ bs).length ≤ LINE ∧ F (.lst true (as ++ bs)) μ := by
  cases x with
  | lst b as =>
    cases y with
    | lst b' bs =>
      obtain ⟨g, h⟩ := (show ResG C σ (tLst true (as ++ bs) μ) _ from h).guard
      exact ⟨b, as, b', bs, rfl, rfl, of_decide_eq_true g, h.ret⟩
    | _ => exact h.elim
  | _ => exact h.elim
section
variable {C : Ctx} {a b : Expr} {f g : Env → M D} {pos : Pos}
theorem ok_addM (ha : OkE C a f) (hb : OkE C b g) : OkE C (.BinOp a .Add b pos) (fun ρ => M.bind (f ρ) fun x => M.bind (g ρ) fun y => addMD x y) :=
  PE_imp (pe_op op_catR ha hb) fun σ H Q ⟨s, ρ, own, μ, e1, p, q⟩ => ⟨s, ρ, own, μ, e1, p, q.bind.mono fun x μ1 h1 vx s1 o po => ⟨s1, ρ, own, μ1, rfl, p.step po.ev po.wd, h1.bind.mono fun y μ2 h2 vy s2 o2 po2 => by
    obtain ⟨b1, as, b2, bs, rfl, rfl, hl, h3⟩ := addMD_ok h2
    obtain ⟨l1, xs, p1, e1, q1, r1, m1, n1⟩ := (po2.ev.rep po.wd po.rep fun c hc => ⟨(po.ow c hc).1, (po.ow c hc).2.2⟩).lstAny
    obtain ⟨l2, ys, p2, e2, q2, r2, m2, n2⟩ := po2.rep.lstAny
    refine ⟨l1, l2, xs, ys, e1, e2, q1, q2, by rw [← line_eq, ← r1.len, ← r2.len, ← List.length_append]; exact hl, fun p hp => ?_⟩
    have up := po2.ev.ownS po.wd (o := o) fun c hc => ⟨(po.ow c hc).1, (po.ow c hc).2.2⟩
    refine h3 (.ref p) (s2.own p (.lst (xs ++ ys))) (p :: (p1 ++ p2)) (Post.newL (po.ev.trans po2.ev) po2.wd (r1.append r2) (List.nodup_append.mpr ⟨n1 po.nd, n2 po2.nd, fun c hc d hd e => (po2.ow d (m2 d hd)).2.1 (by rw [← e]; exact (po.ow c (m1 c hc)).1)⟩) (fun c hc => ?_) hp)
    rcases List.mem_append.mp hc with hc | hc
    · exact ⟨(up c (m1 c hc)).1, (po.ow c (m1 c hc)).2.1, (up c (m1 c hc)).2⟩
    · exact ⟨(po2.ow c (m2 c hc)).1, fun z => (po2.ow c (m2 c hc)).2.1 (po.ev.up c z), (po2.ow c (m2 c hc)).2.2⟩⟩⟩
end
end Vf
namespace Vf
open PySem PySem.Spec PyProof.Rows L2
/-! a flat part of a tuple that may own things -/
theorem RepL.flatAt {K : PySem.W.Frag} {w : World} {s : Sx} : ∀ {ds : List D} {vs : List V} {o : List Addr} {j : Nat} {d : D}, RepL K w s ds vs o → ds[j]? = some d → d.flat = true → ∃ v, vs[j]? = some v ∧ Rep K w s d v []
  | [], _, _, _, _, _, e, _ => by simp at e
  | x :: ds, vs, o, 0, d, r, e, f => by
    obtain ⟨v, vs', o1, o2, ev, eo, r1, r2⟩ := r
    simp at e
    subst e ev eo
    refine ⟨v, rfl, ?_⟩
    have z : o1 = [] := Rep.nb _ _ _ r1 (by cases x <;> first | rfl | cases f)
    rw [z] at r1
    exact r1
  | x :: ds, vs, o, j + 1, d, r, e, f => by
    obtain ⟨v, vs', o1, o2, ev, eo, r1, r2⟩ := r
    subst ev eo
    obtain ⟨u, h1, h2⟩ := RepL.flatAt (j := j) r2 (by simpa using e) f
    exact ⟨u, by simpa using h1, h2⟩
section
variable {C : Ctx} {i : Nat} {c : Int} {x : Str} {k : Nat} {p1 p2 p3 : Pos}
def at0K (i : Nat) (c : Int) : Env → M D := fun ρ => match ρ[i]? with
    | some (some (.tup ds)) => match L2.atI ds c with
      | some d => guard' d.flat (M.ret d)
      | none => M.bad
    | _ => M.bad
theorem ok_at0 (hN : C.X.N[i]? = some x) (hv : Vis C.X.env.scope x) (hd : (x == ("__debug__" : Str)) = false) (hc : (x == ("__classdict__" : Str)) = false) : OkE C (.Subscript (.Name x p1) (.Constant (.int c) k p2) p3) (at0K i c) :=
  PE_imp (pe_ix ix_tup (pe_var hN hv hd hc) pe_int (notSlice_ok rfl)) fun σ H Q ⟨s, ρ, own, μ, e1, p, q⟩ => by
    subst e1
    have q : ResG C σ ((match ρ[i]? with
    | some (some (.tup ds)) => match L2.atI ds c with
      | some d => guard' d.flat (M.ret d)
      | none => M.bad
    | _ => M.bad : M D) μ) _ := q
    cases hρ : ρ[i]? with
    | none => simp only [hρ] at q; exact q.elim
    | some od =>
      cases od with
      | none => simp only [hρ] at q; exact q.elim
      | some d =>
        cases d with
        | tup ds =>
          simp only [hρ] at q
          obtain ⟨v, hv, r⟩ := p.r.at_ i _ hρ
          have r := r.rep fun c fs e => by cases e
          obtain ⟨T, vs, ev, hT, rr⟩ := r
          cases ha : L2.atI ds c with
          | none => simp only [ha] at q; exact q.elim
          | some d =>
            simp only [ha] at q
            obtain ⟨f, q⟩ := ResG.guard q
            unfold L2.atI at ha
            cases hj : L2.ixN ds.length c with
            | none => rw [hj] at ha; cases ha
            | some j =>
              rw [hj] at ha
              obtain ⟨u, hu, ru⟩ := rr.flatAt ha f
              have ha2 : L2.atI vs c = some u := by
                unfold L2.atI
                rw [← rr.len, hj]
                exact hu
              exact ⟨v, hv, T, vs, c, u, ev, rfl, hT, ha2, q.ret u s [] (Post.scal (Ev.refl s) p.wd ru)⟩
        | _ => simp only [hρ] at q; exact q.elim
end
end Vf

/-! VG -/
set_option autoImplicit false
set_option linter.all false
set_option Elab.async false
set_option maxHeartbeats 4000000
set_option maxRecDepth 10000
/-! VG: promises of defs that are called while no repr is under way. -/
namespace Vf
open PySem PySem.Spec PyProof.Rows L2
section
variable {P : Program} {w : World} {K : PySem.W.Frag} {mg : Str → Option Value} {base : Heap}
/-- as FnOk, where no list is being shown -/
structure FnG (P : Program) (w : World) (K : PySem.W.Frag) (mg : Str → Option Value) (base : Heap) (k : Nat) (f : Addr) (fd : FuncData) (ps : List Str) (sp : Sp) : Prop where
  len : ∀ vs H Q E, sp vs H Q E → vs.length = ps.length
  run : ∀ (A : Around) (outer : List PySem.Env) (s : Shared) (H : Hp) (args : Args) (us : List Value) (vs : List V) (Q : VK) (E : XK), A.guards = some [] → Room k A → Env0 P w K mg base A outer s H → BindsTo s fd args (ps.zip us) → Vals vs us → sp vs H Q E →
    codeAny (model P w) A (.call (.ref f) args) (CR (L2.CX P w) outer P w H s Q E) s
theorem FnG.imp {k : Nat} {f : Addr} {fd : FuncData} {ps : List Str} {sp sp' : Sp} (F : FnG P w K mg base k f fd ps sp) (h : ∀ vs H Q E, sp' vs H Q E → sp vs H Q E) : FnG P w K mg base k f fd ps sp' :=
  ⟨fun vs H Q E q => F.len vs H Q E (h _ _ _ _ q), fun A outer s H args us vs Q E hg hr he hb hv hs => F.run A outer s H args us vs Q E hg hr he hb hv (h _ _ _ _ hs)⟩
/-- a def of the text -/
theorem fnG {x qual : Str} {st : Stmt} {f : Addr} {fd : FuncData} {N ps : List Str} {k : Nat} {sp : Sp} (F : L2.Fun K x qual st f fd) (S : FnScope N ps (defScope st)) (len : ∀ vs H Q E, sp vs H Q E → vs.length = ps.length)
    (body : ∀ (cdv : Value) (A : Around) (outer : List PySem.Env) (s : Shared) (H : Hp) (vs : List V) (Q : VK) (E : XK), A.guards = some [] → Room k (A.deeper (envOfC qual (defScope st) s.heap.objs.size f cdv)) → sp vs H Q E →
      ∃ t, PSs (cxOf (L2.CX P w) P w K mg base N qual (defScope st) f cdv A outer s H E) (defBody st) t ∧ t { nx := fun _ H' => Q .non H', rt := Q } (L2.start N vs) H) : FnG P w K mg base (k + 1) f fd ps sp := by
  obtain ⟨oc, od, kV, doc, pm, an, cdv, ct, osl, rfl, lk, hcd⟩ := F.ex
  refine ⟨len, fun A outer s H args us vs Q E hg hr e0 hb rv hsp => ?_⟩
  have inK : K.In s.heap := e0.mod.kin.keeps fun b o z => (e0.bs b o z).1
  have noLim : s.heap.NoLimit := e0.mod.nolimit.keeps fun b o z => (e0.bs b o z).1
  have kinds : ∀ y ∈ ps.zip us, (defScope st).names.lookup y.1 = some .local ∨ ((defScope st).names.lookup y.1 = some .cell ∧ ((cellsFrom (s.heap.objs.size + 1) (defScope st).names []).lookup y.1).isSome = true) := fun y hy =>
    (S.par y.1 (List.of_mem_zip (show (y.1, y.2) ∈ ps.zip us from hy)).1).imp id fun z => ⟨z, PySem.W.cellsFrom_some _ _ _ (.inl z)⟩
  refine codeAny_call_function hr.depth (inK _ _ lk) rfl S.co S.gen rfl (PySem.W.codeRec_of inK hcd) (hb _ _ _ _ (wpAny_newFunctionEnv_cells S.kind kinds fun env he s1 st1 => ?_))
  subst he
  obtain ⟨t, ht, hq⟩ := body cdv A outer s H vs Q E hg (hr.deeper _) hsp
  have I0 : Inv (cxOf (L2.CX P w) P w K mg base N qual (defScope st) f cdv A outer s H E) [] (L2.start N vs) H s1 := inv_start S hr.hd e0 (len _ _ _ _ hsp) rv st1
  refine ⟨noLim.keeps st1.toInCall.keep, codeAny_func (wpAny_mono (ht.run [] s1 (L2.start N vs) H _ I0 hq) (fun fl s' hs => ?_) fun _ _ z => z)⟩
  cases fl with
  | ret u =>
    obtain ⟨v, σ', H', J, r2, q⟩ := hs
    exact ⟨v, H', J.os, J.bare, J.base, J.hok, r2, q⟩
  | next =>
    obtain ⟨σ', H', J, q⟩ := hs
    exact ⟨V.non, H', J.os, J.bare, J.base, J.hok, rfl, q⟩
  | brk =>
    obtain ⟨_, _, _, q⟩ := hs
    exact q.elim
  | cont =>
    obtain ⟨_, _, _, q⟩ := hs
    exact q.elim
end
section
variable {X : Cx} {k : Nat} {f : Addr} {fd : FuncData} {ps : List Str} {sp : Sp} {E : L2.St → XK} {x : Str} {p pos : Pos} {e : Expr} {es : List Expr} {t : TA}
/-- the call of one -/
theorem pe_callG (F : FnG X.prog X.w X.K X.mg X.base k f fd ps sp) (gd : X.A.guards = some []) (hr : Room k X.A) (hg : Gl X x) (hm : X.mg x = some (.ref f)) (hk : PySem.W.keepIn X.K (.ref f) = true) (hb : Binds X.K fd ps []) (hx : ∀ σ, PassesAt (L2.CX X.prog X.w) X σ (E σ))
    (ha : PA X (e :: es) t) (hdb : (x == ("__debug__" : Str)) = false) (he : starEach (e :: es) X.env = (false, eval e X.env) :: starEach es X.env) (hpl : (backTo pos (starEach es X.env)).any (·.1) = false) :
    PE X (.Call (.Name x p) (e :: es) [] pos) (tCallS sp E t) := by
  refine ⟨fun pins s σ H Q I h => wpAny_Call_Name_kw (ld_glob I hg hm ?_ hdb)⟩
  refine PySem.W.callWith_K (h₀ := X.base) I.ok.mod.kin hk (thn (ha.run pos pins s σ H _ I h) fun us s1 ⟨vs, H1, I1, r, q⟩ => ⟨I1.kIn, ?_⟩) he hpl
  have hl : us.length = ps.length := by rw [← r.length]; exact F.len _ _ _ _ q
  have b := hb s1 us I1.kIn (by rw [List.append_nil]; exact hl)
  rw [List.append_nil] at b
  refine wpAny_call (codeAny_mono (F.run X.A X.stack s1 H1 ⟨us, []⟩ us vs Q (E σ) gd hr I1.env0 b r q) fun rs s' hq => ?_)
  cases rs with
  | error er => exact hx σ pins H1 s1 er s' I1 hq
  | ok fl =>
    cases fl with
    | ret u => exact I1.after hq
    | _ => exact False.elim hq
end
/-! ### the law's call -/
section
variable {P : Program} {w : World} {K : PySem.W.Frag} {mg mb : Str → Option Value} {k : Nat} {fa a : Addr} {fd : FuncData} {x : Str} {sp : Sp} {s1 : Shared} {vs : List Value} {ns : List Int}
/-- from a heap in which nothing but the script may be tracked -/
theorem callG1 {H : Hp} (inK : K.In s1.heap) (hns : s1.heap.Ns mainGlobals mg) (hb : s1.heap.Ns builtinsNs mb) (hbb : ∀ x : Str, x ≠ "__name__" → mb x = bootBuiltins x) (lim : s1.heap.NoLimit) (hg : s1.gens = #[]) (ha : s1.heap.get? a = some { cls := .type "list", data := .seq vs.toArray }) (hr : Room k callerA)
    (F : ∀ base : Heap, K.In base → base.Ns mainGlobals mg → FnG P w K mg base k fa fd [x] sp) (bind : ∀ (s : Shared) (u : Value), BindsTo s fd ⟨[u], []⟩ [(x, u)])
    (hO : Only H) (hs : sp [.ref a] H (fun v _ => v = .bl true) fun _ _ _ => False) (hX : ∀ e s', L2.CX P w [] H s1 (fun _ _ _ => False) e s' → False) (ok : HOk P w H s1.heap) (one : ∀ b, H b ≠ none → b = a) (hK : H a ≠ none → K.lookup a = none) :
    codeAny (model P w) callerA (.call (.ref fa) ⟨[.ref a], []⟩) (fun r s' => r = .ok (.ret (.bool true)) ∧ OldK s1.heap s'.heap ∧ s'.os = s1.os ∧ AllBare s'.gens) s1 := by
  have free : ∀ {b : Addr}, b ≠ a → H b = none := fun {b} n => by
    cases z : H b with
    | none => rfl
    | some u => exact absurd (one b (by rw [z]; simp)) n
  have dictOut : ∀ {b : Addr} {o : Obj} {es : Array DictEntry} {ep : Nat}, s1.heap.get? b = some o → o.data = .dict es ep → (hidT s1.heap H).get? b = some o := fun {b o es ep} z d => hidT_get z (free fun e => by
    subst e
    rw [ha] at z; cases z; cases (show Data.seq vs.toArray _ = Data.dict es ep from d))
  have nsB : ∀ {b : Addr} {m : Str → Option Value}, s1.heap.Ns b m → (hidT s1.heap H).Ns b m := fun {b m} ⟨o, es, ep, z, d, r⟩ => ⟨o, es, ep, dictOut z d, d, r⟩
  have kB : K.In (hidT s1.heap H) := fun b o z => hidT_get (inK b o z) (by
    cases q : H b with
    | none => rfl
    | some u =>
      have e := one b (by rw [q]; simp)
      subst e
      rw [hK (by rw [q]; simp)] at z; cases z)
  obtain ⟨mc, l1, l2⟩ := lim
  have env : Env0 P w K mg (hidT s1.heap H) callerA [] s1 H := ⟨rfl, ⟨kB, nsB hns, ⟨mb, nsB hb, hbb⟩, mc, nsB l1, l2⟩, fun b o z => of_hidT z, Nat.le_of_eq (hidT_size _ _), trivial, fun b z => (List.not_mem_nil z).elim, ok, .of_eq hg⟩
  refine codeAny_mono ((F _ kB (nsB hns)).run callerA [] s1 H ⟨[.ref a], []⟩ [.ref a] [.ref a] _ _ rfl hr env (bind s1 (.ref a)) (.cons rfl .nil) hs) fun r s' h => ?_
  cases r with
  | error er => exact (hX er s' h).elim
  | ok fl =>
    cases fl with
    | ret u =>
      obtain ⟨v, H', os, bare, un, ok', rv, q⟩ := h
      have q : v = .bl true := q
      subst q
      obtain rfl : u = Value.bool true := rv
      refine ⟨rfl, OldK.of_keep fun b o z => ?_, os, bare⟩
      rcases hO b with e | ⟨ob, xs, e⟩
      · exact un.keep b o z e (fun m => (List.not_mem_nil m).elim) (fun m => (List.not_mem_nil m).elim)
      · have g1 := (ok b _ e).1
        have g2 := (ok' b _ (un.frzs b ob _ e)).1
        rw [z] at g1; cases g1
        exact g2
    | _ => exact False.elim h
theorem callG (inK : K.In s1.heap) (hns : s1.heap.Ns mainGlobals mg) (hb : s1.heap.Ns builtinsNs mb) (hbb : ∀ x : Str, x ≠ "__name__" → mb x = bootBuiltins x) (lim : s1.heap.NoLimit) (hg : s1.gens = #[]) (ha : s1.heap.get? a = some { cls := .type "list", data := .seq vs.toArray }) (hi : IntsAre vs ns) (hl : ns.length ≤ sizeLine) (hr : Room k callerA)
    (F : ∀ base : Heap, K.In base → base.Ns mainGlobals mg → FnG P w K mg base k fa fd [x] sp) (bind : ∀ (s : Shared) (u : Value), BindsTo s fd ⟨[u], []⟩ [(x, u)])
    (hs : ∀ H : Hp, Only H → SqL K H a (ns.map V.int) → sp [.ref a] H (fun v _ => v = .bl true) fun _ _ _ => False) (hX : ∀ H e s', L2.CX P w [] H s1 (fun _ _ _ => False) e s' → False) :
    codeAny (model P w) callerA (.call (.ref fa) ⟨[.ref a], []⟩) (fun r s' => r = .ok (.ret (.bool true)) ∧ OldK s1.heap s'.heap ∧ s'.os = s1.os ∧ AllBare s'.gens) s1 := by
  have rv := vals_ints hi
  cases hk : K.lookup a with
  | some o =>
    have e := inK a o hk
    rw [ha] at e
    cases e
    have only : Only (fun _ => none) := fun _ => .inl rfl
    exact callG1 inK hns hb hbb lim hg ha hr F bind only (hs _ only (.inr ⟨_, vs.toArray, _, hk, rfl, rfl, rfl, by rw [List.size_toArray, hi.length]; exact hl, by simpa using rv⟩)) (hX _) (fun b u z => by cases (show (none : Option HO) = some u from z)) (fun b z => absurd rfl z) fun z => absurd rfl z
  | none =>
    have at1 : ∀ {b : Addr}, b = a → (fun b => if b = a then some (HO.frz { cls := .type "list", data := .seq vs.toArray } (.lst (ns.map V.int))) else none : Hp) b = some (HO.frz { cls := .type "list", data := .seq vs.toArray } (.lst (ns.map V.int))) := fun e => if_pos e
    have at0 : ∀ {b : Addr}, b ≠ a → (fun b => if b = a then some (HO.frz { cls := .type "list", data := .seq vs.toArray } (.lst (ns.map V.int))) else none : Hp) b = none := fun e => if_neg e
    have only : Only (fun b => if b = a then some (HO.frz { cls := .type "list", data := .seq vs.toArray } (.lst (ns.map V.int))) else none) := fun b => by
      by_cases e : b = a
      · exact .inr ⟨_, _, at1 e⟩
      · exact .inl (at0 e)
    refine callG1 inK hns hb hbb lim hg ha hr F bind only (hs _ only (.inl (.inr ⟨_, at1 rfl⟩))) (hX _) (fun b u z => ?_) (fun b z => ?_) fun _ => hk
    · by_cases e : b = a
      · have z := (at1 e).symm.trans z
        cases z
        subst e
        exact ⟨ha, by rw [List.length_map]; exact hl, vs, _, rv, ha⟩
      · have z := (at0 e).symm.trans z
        cases z
    · by_cases e : b = a
      · exact e
      · exact absurd (at0 e) z
end
/-- the goal that the head leaves -/
theorem walkG {l : PySem.W.OpenLaw} {n k : Nat} {q : Program} {loose : List Str} {XP : (Str → Option Value) → Heap → Prop} {YP : World → Heap → Prop} {d : DefRec} {K : Params → PySem.W.Frag} {sp : World → Sp} {x : Str}
    (hn : l.most = some n) (hn2 : n ≤ sizeLine) (hdf : d.params.defaults = []) (hr : Room k callerA) (hY : ∀ (w : World) (h : Heap), YP w h → (K w.params).In h)
    (F : ∀ (w : World) (mg : Str → Option Value) (fa : Addr) (h : Heap), (K w.params).In h → h.Ns mainGlobals mg → mg d.name = some (.ref fa) → ∃ fd : FuncData, (∀ (s : Shared) (u : Value), BindsTo s fd ⟨[u], []⟩ [(x, u)]) ∧ ∀ base : Heap, (K w.params).In base → base.Ns mainGlobals mg → FnG l.prog w (K w.params) mg base k fa fd [x] (sp w))
    (hsp : ∀ (w : World) (H : Hp) (a : Addr) (ns : List Int), ns.length ≤ n → Only H → SqL (K w.params) H a (ns.map V.int) → sp w [.ref a] H (fun v _ => v = .bl true) fun _ _ _ => False)
    (hX : ∀ (w : World) (H : Hp) (s : Shared) (e : Value) (s' : Shared), L2.CX l.prog w [] H s (fun _ _ _ => False) e s' → False) : PySem.W.WalkO q loose XP YP l.row.toRowW d [] (fun f vs => PySem.call f vs) :=
  Att.attach_call hn hdf fun w s0 s1 mg mb fa o pm cd doc a vs ns G Y ho hd hcd hmg hobj hints hlen hg => by
    obtain ⟨fd, hb, hF⟩ := F w mg fa _ (hY w _ Y) G.T.g hmg
    exact callG (hY w _ Y) G.T.g G.T.b G.T.builtins G.T.nolimit hg hobj hints (Nat.le_trans hlen hn2) hr hF hb (fun H hO hS => hsp w H a ns hlen hO hS) fun H e s' => hX w H s1 e s'
end Vf

/-! V7 -/
set_option autoImplicit false
set_option linter.all false
set_option Elab.async false
set_option maxHeartbeats 1000000
/-! V7: slices, built-ins, calls. -/
namespace Vf
open PySem PySem.Spec PyProof.Rows L2

section
variable {K : PySem.W.Frag} {w : World} {s : Sx}
theorem RepL.drop : ∀ {ds : List D} {vs : List V} (n : Nat), RepL K w s ds vs [] → RepL K w s (ds.drop n) (vs.drop n) []
  | _, _, 0, h => by simpa using h
  | [], vs, n + 1, h => by
    obtain ⟨rfl, _⟩ := h
    exact ⟨rfl, rfl⟩
  | d :: ds, vs, n + 1, h => by
    obtain ⟨v, vs', e, r1, r2⟩ := h.cons_of
    subst e
    exact RepL.drop n r2
theorem RepL.take : ∀ {ds : List D} {vs : List V} (n : Nat), RepL K w s ds vs [] → RepL K w s (ds.take n) (vs.take n) []
  | ds, vs, 0, h => ⟨by simp, rfl⟩
  | [], vs, n + 1, h => by
    obtain ⟨rfl, _⟩ := h
    exact ⟨rfl, rfl⟩
  | d :: ds, vs, n + 1, h => by
    obtain ⟨v, vs', e, r1, r2⟩ := h.cons_of
    subst e
    exact RepL.cons r1 (RepL.take n r2)
theorem RepL.cut {ds : List D} {vs : List V} (lo hi : Option Int) (h : RepL K w s ds vs []) : RepL K w s (cutD ds lo hi) (cutV vs lo hi) [] := by
  unfold cutD cutV
  rw [h.len]
  exact (h.drop _).take _
theorem RepL.rev : ∀ {ds : List D} {vs : List V}, RepL K w s ds vs [] → RepL K w s ds.reverse vs.reverse []
  | [], vs, h => by
    obtain ⟨rfl, _⟩ := h
    exact ⟨rfl, rfl⟩
  | d :: ds, vs, h => by
    obtain ⟨v, vs', e, r1, r2⟩ := h.cons_of
    subst e
    rw [List.reverse_cons, List.reverse_cons]
    exact RepL.append (RepL.rev r2) (RepL.cons r1 ⟨rfl, rfl⟩)
end
/-! ### slices -/
def tDO (C : Ctx) (f : Env → M (Option Int)) : TO := fun σ H Q => ∃ s ρ own μ, s.H = H ∧ Pre C s ρ σ own μ ∧ ResG C σ (f ρ μ) fun oi μ' => ∀ s', Ev s s' → Wd C.K C.w s' μ' → Q oi s'.H
abbrev OkO (C : Ctx) (e : Option Expr) (f : Env → M (Option Int)) : Prop := PO C.X e (tDO C f)
theorem PO_imp {X : Cx} {e : Option Expr} {t t' : TO} (h : PO X e t) (i : ∀ σ H Q, t' σ H Q → t σ H Q) : PO X e t' := ⟨fun pins s σ H Q I q => h.run pins s σ H Q I (i σ H Q q)⟩
section
variable {C : Ctx} {e a b : Expr} {es : List Expr} {f g : Env → M D} {fl fh : Env → M (Option Int)} {pos p2 : Pos} {lo hi : Option Expr}
theorem ok_onone : OkO C none (fun _ => M.ret none) := PO_imp po_none fun σ H Q ⟨s, ρ, own, μ, e1, p, q⟩ => by
  show Q none H
  rw [← e1]
  exact q.ret s (Ev.refl s) p.wd
def osomeK (f : Env → M D) : Env → M (Option Int) := fun ρ => M.bind (f ρ) fun | .int i => M.ret (some i) | _ => M.bad
theorem ok_osome (h : OkE C e f) : OkO C (some e) (osomeK f) := PO_imp (po_some h) fun σ H Q ⟨s, ρ, own, μ, e1, p, q⟩ => ⟨s, ρ, own, μ, e1, p, q.bind.mono fun d μ1 h1 v s1 o po => by
  cases d with
  | int i => exact ⟨i, po.rep.1, h1.ret s1 po.ev po.wd⟩
  | _ => exact h1.elim⟩
theorem cut_all {α : Type} {xs : List α} {lo hi : Option Int} (h : HT.sIx xs.length 0 lo = 0 ∧ HT.sIx xs.length xs.length hi = xs.length) : (xs.drop (HT.sIx xs.length 0 lo)).take (HT.sIx xs.length xs.length hi - HT.sIx xs.length 0 lo) = xs := by
  rw [h.1, h.2]; simp
theorem ok_slc (ha : OkB C a f) (hl : OkO C lo fl) (hh : OkO C hi fh) : OkE C (.Subscript a (.Slice lo hi none p2) pos) (fun ρ => M.bind (f ρ) fun x => M.bind (fl ρ) fun l => M.bind (fh ρ) fun h => slcD x l h) :=
  PE_imp (pe_slice (sl_list.or sl_tupA) ha hl hh) fun σ H Q ⟨s, ρ, own, μ, e1, p, q⟩ => ⟨s, ρ, own, μ, e1, p, q.bind.mono fun x μ1 h1 v s1 p1 =>
    ⟨s1, ρ, own, μ1, rfl, p.step p1.ev p1.wd, h1.bind.mono fun l μ2 h2 s2 ev2 wd2 =>
      ⟨s2, ρ, own, μ2, rfl, (p.step p1.ev p1.wd).step ev2 wd2, h2.bind.mono fun h μ3 h3 s3 ev3 wd3 => by
        have rx := (ev2.trans ev3).repB p1.wd p1.rep
        have et := p1.ev.trans (ev2.trans ev3)
        cases x with
        | tup ds =>
          have h3 : ResG C σ (M.ret (D.tup (cutD ds l h)) μ3) _ := h3
          obtain ⟨a, vs, ev, hq, r⟩ := rx
          refine .inr ⟨a, vs, ev, hq, fun hw => ?_, fun hw p' hp => h3.ret (.ref p') (s3.tup p' (.tup (cutV vs l h))) [] (Post.newT et wd3 (r.cut l h) List.nodup_nil (fun _ z => nomatch z) hp)⟩
          have e : cutD ds l h = ds := cut_all (by rw [r.len]; exact hw)
          rw [e] at h3
          exact h3.ret (.ref a) s3 [] (Post.scal et wd3 ⟨a, vs, rfl, hq, r⟩)
        | lst b ds =>
          have h3 : ResG C σ (M.ret (D.lst true (cutD ds l h)) μ3) _ := h3
          obtain ⟨a, vs, ev, hq, r⟩ := rx
          exact .inl ⟨a, vs, ev, hq.sq, fun p' hp => h3.ret (.ref p') (s3.own p' (.lst (cutV vs l h))) [p'] (Post.newL et wd3 (r.cut l h) List.nodup_nil (fun _ z => nomatch z) hp)⟩
        | _ => exact h3.elim⟩⟩⟩
def revK (f : Env → M D) : Env → M D := fun ρ => M.bind (f ρ) fun
    | .lst _ ds => M.ret (.lst true ds.reverse)
    | _ => M.bad
theorem ok_rev {k : Nat} {p1 p2 p3 : Pos} (ha : OkB C a f) : OkE C (.Subscript a (.Slice none none (some (.UnaryOp .USub (.Constant (.int 1) k p1) p2)) p3) pos) (revK f) :=
  PE_imp (pe_revL ha) fun σ H Q ⟨s, ρ, own, μ, e1, p, q⟩ => ⟨s, ρ, own, μ, e1, p, q.bind.mono fun x μ1 h1 v s1 p1 => by
    cases x with
    | lst b ds =>
      obtain ⟨a, vs, ev, hq, r⟩ := p1.rep
      exact ⟨a, vs, ev, hq.sq, fun p' hp => h1.ret (.ref p') (s1.own p' (.lst vs.reverse)) [p'] (Post.newL p1.ev p1.wd r.rev List.nodup_nil (fun _ z => nomatch z) hp)⟩
    | _ => exact h1.elim⟩
def negK (f : Env → M D) : Env → M D := fun ρ => M.bind (f ρ) fun | .int i => M.ret (.int (-i)) | _ => M.bad
theorem ok_neg (ha : OkE C a f) : OkE C (.UnaryOp .USub a pos) (negK f) :=
  PE_imp (pe_un un_neg ha) fun σ H Q ⟨s, ρ, own, μ, e1, p, q⟩ => ⟨s, ρ, own, μ, e1, p, q.bind.mono fun x μ1 h1 v s1 o p1 => by
    cases x with
    | int i => exact ⟨i, p1.rep.1, h1.ret (.int (-i)) s1 [] (Post.scal p1.ev p1.wd ⟨rfl, rfl⟩)⟩
    | _ => exact h1.elim⟩
/-! ### built-ins with one argument -/
theorem ok_blt {x : Str} {id : String} {p : Pos} {r : List V → Hp → VK → Prop} (k : D → M D) (hc : CallR C.X (.builtin id) r) (hg : Gl C.X x) (hm : C.X.mg x = none) (hv : bootBuiltins x = some (.builtin id)) (hn : x ≠ "__name__") (hdb : (x == ("__debug__" : Str)) = false)
    (ha : OkB C e f) (hs : notStar e = true)
    (hk : ∀ σ s μ x vx Q, Wd C.K C.w s μ → RepB C.K C.w s x vx → ResG C σ (k x μ) (fun d μ' => ∀ v s' o, Post C.K C.w s s' μ' d v o → Q v s'.H) → r [vx] s.H Q) :
    OkE C (.Call (.Name x p) [e] [] pos) (fun ρ => M.bind (f ρ) k) :=
  PE_imp (pe_callB hc hg hm hv (pa_cons ha pa_nil (notStar_ok hs [] _)) hn hdb (notStar_ok hs [] _) (noStars (es := []) rfl _ _)) fun σ H Q ⟨s, ρ, own, μ, e1, p, q⟩ => ⟨s, ρ, own, μ, e1, p, q.bind.mono fun x μ1 h1 vx s1 p1 =>
    hk σ s1 μ1 x vx Q p1.wd p1.rep (ResG.mono h1 fun d μ' h3 v s' o po => h3 v s' o (po.tr p1.ev))⟩
theorem ok_bltT {x : Str} {T : String} {p : Pos} {r : List V → Hp → VK → Prop} (k : D → M D) (hc : CallR C.X (.type T) r) (hg : Gl C.X x) (hm : C.X.mg x = none) (hv : bootBuiltins x = some (.type T)) (hn : x ≠ "__name__") (hdb : (x == ("__debug__" : Str)) = false)
    (ha : OkB C e f) (hs : notStar e = true)
    (hk : ∀ σ s μ x vx Q, Wd C.K C.w s μ → RepB C.K C.w s x vx → ResG C σ (k x μ) (fun d μ' => ∀ v s' o, Post C.K C.w s s' μ' d v o → Q v s'.H) → r [vx] s.H Q) :
    OkE C (.Call (.Name x p) [e] [] pos) (fun ρ => M.bind (f ρ) k) :=
  PE_imp (pe_callTy hc hg hm hv (pa_cons ha pa_nil (notStar_ok hs [] _)) hn hdb (notStar_ok hs [] _) (noStars (es := []) rfl _ _)) fun σ H Q ⟨s, ρ, own, μ, e1, p, q⟩ => ⟨s, ρ, own, μ, e1, p, q.bind.mono fun x μ1 h1 vx s1 p1 =>
    hk σ s1 μ1 x vx Q p1.wd p1.rep (ResG.mono h1 fun d μ' h3 v s' o po => h3 v s' o (po.tr p1.ev))⟩
end
theorem dBools_rep {K : PySem.W.Frag} {w : World} {s : Sx} : ∀ {ds : List D} {vs : List V} {bs : List Bool}, RepL K w s ds vs [] → dBools ds = some bs → vs = bs.map V.bl
  | [], vs, bs, h, e => by
    obtain ⟨rfl, _⟩ := h
    cases e; rfl
  | d :: ds, vs, bs, h, e => by
    obtain ⟨v, vs', ev, r1, r2⟩ := h.cons_of
    subst ev
    cases d with
    | bl b =>
      obtain ⟨cs, e1, e2⟩ := Option.map_eq_some_iff.mp (show (dBools ds).map (b :: ·) = some bs from e)
      subst e2
      rw [dBools_rep r2 e1, r1.1]
      rfl
    | _ => simp [dBools] at e
theorem dInts_rep {K : PySem.W.Frag} {w : World} {s : Sx} : ∀ {ds : List D} {vs : List V} {bs : List Int}, RepL K w s ds vs [] → dInts ds = some bs → vs = bs.map V.int
  | [], vs, bs, h, e => by
    obtain ⟨rfl, _⟩ := h
    cases e; rfl
  | d :: ds, vs, bs, h, e => by
    obtain ⟨v, vs', ev, r1, r2⟩ := h.cons_of
    subst ev
    cases d with
    | int b =>
      obtain ⟨cs, e1, e2⟩ := Option.map_eq_some_iff.mp (show (dInts ds).map (b :: ·) = some bs from e)
      subst e2
      rw [dInts_rep r2 e1, r1.1]
      rfl
    | _ => simp [dInts] at e
theorem ints_rep {K : PySem.W.Frag} {w : World} {s : Sx} : ∀ (ns : List Int), RepL K w s (ns.map D.int) (ns.map V.int) []
  | [] => ⟨rfl, rfl⟩
  | n :: ns => RepL.cons ⟨rfl, rfl⟩ (ints_rep ns)
theorem ins_perm (x : Int) : ∀ xs : List Int, (ins x xs).Perm (x :: xs)
  | [] => .refl _
  | y :: r => by
    unfold ins
    by_cases h : x ≤ y
    · rw [if_pos h]
    · rw [if_neg h]
      exact ((ins_perm x r).cons y).trans (.swap x y r)
theorem isort_perm : ∀ xs : List Int, (isort xs).Perm xs
  | [] => .refl _
  | x :: r => (ins_perm x (isort r)).trans ((isort_perm r).cons x)
theorem ins_srt (x : Int) : ∀ xs : List Int, xs.Pairwise (· ≤ ·) → (ins x xs).Pairwise (· ≤ ·)
  | [], _ => by simp [ins]
  | y :: r, h => by
    unfold ins
    have h' := List.pairwise_cons.mp h
    by_cases hx : x ≤ y
    · rw [if_pos hx]
      exact List.pairwise_cons.mpr ⟨fun z hz => by
        rcases List.mem_cons.mp hz with rfl | hz
        · exact hx
        · exact Int.le_trans hx (h'.1 z hz), h⟩
    · rw [if_neg hx]
      exact List.pairwise_cons.mpr ⟨fun z hz => by
        rcases List.mem_cons.mp ((ins_perm x r).mem_iff.mp hz) with rfl | hz
        · omega
        · exact h'.1 z hz, ins_srt x r h'.2⟩
theorem isort_srt : ∀ xs : List Int, (isort xs).Pairwise (· ≤ ·)
  | [] => .nil
  | x :: r => ins_srt x _ (isort_srt r)
theorem srt_uniq : ∀ {xs ys : List Int}, xs.Perm ys → xs.Pairwise (· ≤ ·) → ys.Pairwise (· ≤ ·) → xs = ys
  | [], ys, h, _, _ => (List.Perm.nil_eq h)
  | x :: xs, [], h, _, _ => by simpa using h.length_eq
  | x :: xs, y :: ys, h, h1, h2 => by
    have a := List.pairwise_cons.mp h1
    have b := List.pairwise_cons.mp h2
    have e : x = y := by
      have m1 : x ∈ y :: ys := h.mem_iff.mp List.mem_cons_self
      have m2 : y ∈ x :: xs := h.mem_iff.mpr List.mem_cons_self
      rcases List.mem_cons.mp m1 with e | m1
      · exact e
      · rcases List.mem_cons.mp m2 with e | m2
        · exact e.symm
        · have := a.1 y m2; have := b.1 x m1; omega
    subst e
    rw [srt_uniq ((List.perm_cons x).mp h) a.2 b.2]
theorem isort_uniq {xs ys : List Int} (h : ys.Perm xs) (s : ys.Pairwise (· ≤ ·)) : ys = isort xs := srt_uniq (h.trans (isort_perm xs).symm) s (isort_srt xs)
/-! the built-ins -/
section
variable {C : Ctx} {σ : L2.St} {s : Sx} {μ : Sto} {x : D} {vx : V} {Q : VK}
theorem kLen (W : Wd C.K C.w s μ) (rx : RepB C.K C.w s x vx) (h : ResG C σ (bltD .len x μ) fun d μ' => ∀ v s' o, Post C.K C.w s s' μ' d v o → Q v s'.H) : ∃ x n, [vx] = [x] ∧ LenV C.K x s.H n ∧ Q (.int n) s.H := by
  cases x with
  | lst b ds =>
    obtain ⟨a, vs, ev, hq, r⟩ := rx
    refine ⟨vx, ds.length, rfl, ?_, nil_post (d := .int ds.length) W ⟨rfl, rfl⟩ h.ret⟩
    rw [ev]; exact .inl ⟨vs, hq.sq, r.len⟩
  | tup ds =>
    obtain ⟨a, vs, ev, hq, r⟩ := rx
    refine ⟨vx, ds.length, rfl, ?_, nil_post (d := .int ds.length) W ⟨rfl, rfl⟩ h.ret⟩
    rw [ev]; exact .inr ⟨vs, hq, r.len⟩
  | str z =>
    obtain ⟨g, h⟩ := ResG.guard h
    refine ⟨vx, z.length, rfl, ?_, nil_post (d := .int z.length) W ⟨rfl, rfl⟩ h.ret⟩
    rw [rx.1]; exact ⟨by rw [← line_eq]; exact of_decide_eq_true g, rfl⟩
  | ref n =>
    obtain ⟨a, en, ev, _⟩ := rx
    have h : ResG C σ (match μ[n]? with | some ds => .ok (.int ds.length) μ | none => .bad) fun d μ' => ∀ v s' o, Post C.K C.w s s' μ' d v o → Q v s'.H := h
    cases em : μ[n]? with
    | none => rw [em] at h; exact h.elim
    | some ds =>
      rw [em] at h
      obtain ⟨vs, hq, r⟩ := W.at_ n a ds en em
      refine ⟨vx, ds.length, rfl, ?_, nil_post (d := .int ds.length) W ⟨rfl, rfl⟩ h⟩
      rw [ev]; exact .inl ⟨vs, .of hq, r.len⟩
  | _ => exact h.elim
theorem kAll (W : Wd C.K C.w s μ) (rx : RepB C.K C.w s x vx) (h : ResG C σ (bltD .all x μ) fun d μ' => ∀ v s' o, Post C.K C.w s s' μ' d v o → Q v s'.H) : rAll C.K [vx] s.H Q := by
  cases x with
  | lst b ds =>
    obtain ⟨a, vs, ev, hq, r⟩ := rx
    obtain ⟨d, e, h⟩ := (show ResG C σ (ofO ((dBools ds).map fun bs => D.bl (bs.all id)) μ) _ from h).ofO
    obtain ⟨bs, e1, e2⟩ := Option.map_eq_some_iff.mp e
    subst e2
    have evs := dBools_rep r e1
    subst evs
    exact ⟨a, bs, by rw [ev], hq.sq, nil_post (d := .bl (bs.all id)) W ⟨rfl, rfl⟩ h⟩
  | _ => exact h.elim
theorem kAny (W : Wd C.K C.w s μ) (rx : RepB C.K C.w s x vx) (h : ResG C σ (bltD .any x μ) fun d μ' => ∀ v s' o, Post C.K C.w s s' μ' d v o → Q v s'.H) : rAny C.K [vx] s.H Q := by
  cases x with
  | lst b ds =>
    obtain ⟨a, vs, ev, hq, r⟩ := rx
    obtain ⟨d, e, h⟩ := (show ResG C σ (ofO ((dBools ds).map fun bs => D.bl (bs.any id)) μ) _ from h).ofO
    obtain ⟨bs, e1, e2⟩ := Option.map_eq_some_iff.mp e
    subst e2
    have evs := dBools_rep r e1
    subst evs
    exact ⟨a, bs, by rw [ev], hq.sq, nil_post (d := .bl (bs.any id)) W ⟨rfl, rfl⟩ h⟩
  | _ => exact h.elim
theorem kSum (W : Wd C.K C.w s μ) (rx : RepB C.K C.w s x vx) (h : ResG C σ (bltD .sum x μ) fun d μ' => ∀ v s' o, Post C.K C.w s s' μ' d v o → Q v s'.H) : rSum C.K [vx] s.H Q := by
  cases x with
  | lst b ds =>
    obtain ⟨a, vs, ev, hq, r⟩ := rx
    obtain ⟨d, e, h⟩ := (show ResG C σ (ofO ((dInts ds).map fun is => D.int is.sum) μ) _ from h).ofO
    obtain ⟨bs, e1, e2⟩ := Option.map_eq_some_iff.mp e
    subst e2
    have evs := dInts_rep r e1
    subst evs
    exact ⟨a, bs, by rw [ev], hq.sq, nil_post (d := .int bs.sum) W ⟨rfl, rfl⟩ h⟩
  | _ => exact h.elim
theorem keyInts_of : ∀ {ks : List Key} {is : List Int}, keyInts ks = some is → ks = is.map Sum.inl
  | [], _, e => by cases e; rfl
  | .inl i :: ks, is, e => by
    obtain ⟨r, e1, e2⟩ := Option.map_eq_some_iff.mp (show (keyInts ks).map (i :: ·) = some is from e)
    subst e2
    rw [keyInts_of e1]; rfl
  | .inr _ :: _, _, e => by simp [keyInts] at e
def rSortAll (K : PySem.W.Frag) : List V → Hp → VK → Prop := fun xs H Q => rSortedI K xs H Q ∨ ∃ (a : Addr) (kvs : List (Key × V)) (ks : List Int), xs = [.ref a] ∧ Rd H a (.dK kvs) ∧ kvs.map (·.1) = ks.map Sum.inl ∧ ks.length < 64 ∧
    ∀ (ys : List Int) (p : Addr), ys.Perm ks → ys.Pairwise (· ≤ ·) → H p = none → Q (.ref p) (upd H p (.lst (ys.map V.int)))
theorem cr_sortAll {X : Cx} (hc : X.calm = true) : CallR X (.builtin "sorted") (rSortAll X.K) := cr_sortedI.or (call_sortedDI hc)
theorem kSorted (W : Wd C.K C.w s μ) (rx : RepB C.K C.w s x vx) (h : ResG C σ (bltD .sorted x μ) fun d μ' => ∀ v s' o, Post C.K C.w s s' μ' d v o → Q v s'.H) : rSortAll C.K [vx] s.H Q := by
  cases x with
  | lst b ds =>
    obtain ⟨a, vs, ev, hq, r⟩ := rx
    obtain ⟨d, e, h⟩ := (show ResG C σ (ofO ((dInts ds).map fun is => D.lst true ((isort is).map .int)) μ) _ from h).ofO
    obtain ⟨bs, e1, e2⟩ := Option.map_eq_some_iff.mp e
    subst e2
    have evs := dInts_rep r e1
    subst evs
    refine .inl ⟨a, bs, by rw [ev], hq.sq, fun ns p hp hs hn => ?_⟩
    have en := isort_uniq hp hs
    subst en
    exact h (.ref p) (s.own p (.lst ((isort bs).map V.int))) [p] (Post.newL (Ev.refl s) W (ints_rep _) List.nodup_nil (fun _ z => nomatch z) hn)
  | dct o ks ds =>
    cases o with
    | false => exact h.elim
    | true =>
      obtain ⟨a, vs, ev, hq, l, r⟩ := rx
      obtain ⟨g, h⟩ := (show ResG C σ (guard' (decide (ks.length < 64)) (ofO ((keyInts ks).map fun is => D.lst true ((isort is).map .int))) μ) _ from h).guard
      obtain ⟨d, e, h⟩ := h.ofO
      obtain ⟨bs, e1, e2⟩ := Option.map_eq_some_iff.mp e
      subst e2
      have ek := keyInts_of e1
      have el : ks.length = bs.length := by rw [ek, List.length_map]
      refine .inr ⟨a, ks.zip vs, bs, by rw [ev], hq.1, ?_, by rw [← el]; exact of_decide_eq_true g, fun ns p hp hs hn => ?_⟩
      · rw [← ek]
        exact List.map_fst_zip (by rw [← r.len, l]; exact Nat.le_refl _)
      · have en := isort_uniq hp hs
        subst en
        exact h (.ref p) (s.own p (.lst ((isort bs).map V.int))) [p] (Post.newL (Ev.refl s) W (ints_rep _) List.nodup_nil (fun _ z => nomatch z) hn)
  | _ => exact h.elim
theorem kList (W : Wd C.K C.w s μ) (rx : RepB C.K C.w s x vx) (h : ResG C σ (bltD .list x μ) fun d μ' => ∀ v s' o, Post C.K C.w s s' μ' d v o → Q v s'.H) :
    ∃ p ys, [vx] = [.ref p] ∧ (SqL C.K s.H p ys ∨ SqT C.K s.H p ys) ∧ ∀ l, s.H l = none → Q (.ref l) (upd s.H l (.lst ys)) := by
  cases x with
  | lst b ds =>
    obtain ⟨a, vs, ev, hq, r⟩ := rx
    exact ⟨a, vs, by rw [ev], .inl hq.sq, fun p hn => h.ret (.ref p) (s.own p (.lst vs)) [p] (Post.newL (Ev.refl s) W r List.nodup_nil (fun _ z => nomatch z) hn)⟩
  | tup ds =>
    obtain ⟨a, vs, ev, hq, r⟩ := rx
    exact ⟨a, vs, by rw [ev], .inr hq, fun p hn => h.ret (.ref p) (s.own p (.lst vs)) [p] (Post.newL (Ev.refl s) W r List.nodup_nil (fun _ z => nomatch z) hn)⟩
  | _ => exact h.elim
theorem kTuple (W : Wd C.K C.w s μ) (rx : RepB C.K C.w s x vx) (h : ResG C σ (bltD .tuple x μ) fun d μ' => ∀ v s' o, Post C.K C.w s s' μ' d v o → Q v s'.H) :
    ∃ p ys, [vx] = [.ref p] ∧ ((SqL C.K s.H p ys ∧ ∀ l, s.H l = none → Q (.ref l) (upd s.H l (.tup ys))) ∨ (SqT C.K s.H p ys ∧ Q (.ref p) s.H)) := by
  cases x with
  | lst b ds =>
    obtain ⟨a, vs, ev, hq, r⟩ := rx
    exact ⟨a, vs, by rw [ev], .inl ⟨hq.sq, fun p hn => h.ret (.ref p) (s.tup p (.tup vs)) [] (Post.newT (Ev.refl s) W r List.nodup_nil (fun _ z => nomatch z) hn)⟩⟩
  | tup ds =>
    obtain ⟨a, vs, ev, hq, r⟩ := rx
    exact ⟨a, vs, by rw [ev], .inr ⟨hq, nil_post (d := .tup ds) W ⟨a, vs, rfl, hq, r⟩ h.ret⟩⟩
  | _ => exact h.elim
theorem kInt (W : Wd C.K C.w s μ) (rx : RepB C.K C.w s x vx) (h : ResG C σ (bltD .int x μ) fun d μ' => ∀ v s' o, Post C.K C.w s s' μ' d v o → Q v s'.H) :
    (∃ i, [vx] = [.int i] ∧ Q (.int i) s.H) ∨ ∃ k, [vx] = [.bl k] ∧ Q (.int (if k then 1 else 0)) s.H := by
  cases x with
  | int i => exact .inl ⟨i, by rw [rx.1], nil_post (d := .int i) W ⟨rfl, rfl⟩ h.ret⟩
  | bl k => exact .inr ⟨k, by rw [rx.1], nil_post (d := .int (if k then 1 else 0)) W ⟨rfl, rfl⟩ h.ret⟩
  | _ => exact h.elim
theorem kAbs (W : Wd C.K C.w s μ) (rx : RepB C.K C.w s x vx) (h : ResG C σ (bltD .abs x μ) fun d μ' => ∀ v s' o, Post C.K C.w s s' μ' d v o → Q v s'.H) :
    ∃ i, [vx] = [.int i] ∧ Q (.int (if i < 0 then -i else i)) s.H := by
  cases x with
  | int i => exact ⟨i, by rw [rx.1], nil_post (d := .int (if i < 0 then -i else i)) W ⟨rfl, rfl⟩ h.ret⟩
  | _ => exact h.elim
theorem kStr (W : Wd C.K C.w s μ) (rx : RepB C.K C.w s x vx) (h : ResG C σ (bltD .str x μ) fun d μ' => ∀ v s' o, Post C.K C.w s s' μ' d v o → Q v s'.H) :
    ∃ i, [vx] = [.int i] ∧ i.natAbs.log2 < 1920 ∧ Q (.str (toString i)) s.H := by
  cases x with
  | int i =>
    obtain ⟨g, h⟩ := ResG.guard h
    exact ⟨i, by rw [rx.1], of_decide_eq_true g, nil_post (d := .str (toString i)) W ⟨rfl, rfl⟩ h.ret⟩
  | _ => exact h.elim
end
/-! ### isinstance -/
def tyN : Ty → String
  | .int => "int" | .bool => "bool" | .str => "str" | .list => "list" | .tuple => "tuple" | .dict => "dict"
def tyD : D → String
  | .non => "NoneType" | .bl _ => "bool" | .int _ => "int" | .str _ => "str" | .tup _ => "tuple" | .lst _ _ => "list" | .dct _ _ _ => "dict" | _ => ""
theorem kit_all (x : D) (h : hasTy x = true) (t : Ty) : kitB (tyD x) (tyN t) = some (isTy x t) := by
  cases x <;> first | (cases h; done) | (cases t <;> dsimp only [tyD, tyN, isTy] <;> decide +kernel)
theorem rd_lst_ty {K : PySem.W.Frag} {H : Hp} {a : Addr} {vs : List V} (h : Rd H a (.lst vs)) : TyX K H (.ref a) (.type "list") := by
  rcases h with h | ⟨o, h⟩
  · exact .base (.lst h)
  · exact .base (.frz h)
theorem rdL_ty {K : PySem.W.Frag} {s : Sx} {a : Addr} {vs : List V} (h : RdL K s a vs) : TyX K s.H (.ref a) (.type "list") := by
  rcases h with h | ⟨o, its, n, hk, hc, _⟩
  · exact rd_lst_ty h.1
  · exact .kList hk hc
theorem rd_dk_ty {K : PySem.W.Frag} {H : Hp} {a : Addr} {vs : List (Key × V)} (h : Rd H a (.dK vs)) : TyX K H (.ref a) (.type "dict") := by
  rcases h with h | ⟨o, h⟩
  · exact .base (.dK h)
  · exact .fDict h
theorem RepB.ty {K : PySem.W.Frag} {w : World} {s : Sx} {x : D} {v : V} (h : RepB K w s x v) (g : hasTy x = true) : TyX K s.H v (.type (tyD x)) := by
  cases x with
  | non => rw [h.1]; exact .base .non
  | bl b => rw [h.1]; exact .base (.bl b)
  | int b => rw [h.1]; exact .base (.int b)
  | str b => rw [h.1]; exact .base (.str b)
  | tup ds =>
    obtain ⟨a, vs, ev, hq, r⟩ := h
    rw [ev]
    rcases hq with (hq | ⟨o, hq⟩) | ⟨o, its, n, hk, hc, _⟩
    · exact .base (.tup hq)
    · exact .fTuple hq
    · exact .kTuple hk hc
  | lst b ds =>
    obtain ⟨a, vs, ev, hq, r⟩ := h
    rw [ev]
    exact rdL_ty hq
  | dct b ks ds =>
    cases b with
    | true =>
      obtain ⟨a, vs, ev, hq, l, r⟩ := h
      rw [ev]
      exact rd_dk_ty hq.1
    | false =>
      obtain ⟨a, vs, ev, hq, eo, l, r⟩ := h
      rw [ev]
      rcases hq with hq | ⟨es, n, kd, _⟩
      · exact rd_dk_ty hq.1
      · exact .kDict kd.at_ rfl
  | ref _ => cases g
  | exn _ _ => cases g
section
variable {C : Ctx} {e a b : Expr} {es : List Expr} {f g : Env → M D} {pos p p2 : Pos}
theorem boot_ty (t : Ty) : bootBuiltins (Str.ofString (tyN t)) = some (.type (tyN t)) := by cases t <;> decide +kernel
def isiK (t : Ty) (g : Env → M D) : Env → M D := fun ρ => M.bind (g ρ) fun x => guard' (hasTy x) (M.ret (.bl (isTy x t)))
theorem ok_isi (t : Ty) (hg : Gl C.X "isinstance") (hm : C.X.mg "isinstance" = none) (hg2 : Gl C.X (Str.ofString (tyN t))) (hm2 : C.X.mg (Str.ofString (tyN t)) = none)
    (ha : OkB C a g) (hs : notStar a = true) : OkE C (.Call (.Name "isinstance" p) [a, .Name (Str.ofString (tyN t)) p2] [] pos) (isiK t g) :=
  PE_imp (pe_callB call_isi hg hm PyProof.Rows.boot_isinstance (pa_cons ha (pa_cons (pe_bltn hg2 hm2 (boot_ty t) (show RelV (.ty (tyN t)) _ from rfl) (by cases t <;> decide) (by cases t <;> decide)) pa_nil rfl) (notStar_ok hs _ _)) (by decide) (by decide) (notStar_ok hs _ _) rfl)
    fun σ H Q ⟨s, ρ, own, μ, e1, p, q⟩ => ⟨s, ρ, own, μ, e1, p, q.bind.mono fun x μ1 h1 vx s1 p1 => by
      obtain ⟨g, h1⟩ := ResG.guard h1
      exact ⟨vx, .ty (tyN t), .type (tyD x), .type (tyN t), isTy x t, rfl, .ty _, p1.rep.ty g, kit_ty (kit_all x g t), h1.ret (.bl (isTy x t)) s1 [] (Post.scal p1.ev p1.wd ⟨rfl, rfl⟩)⟩⟩
/-! ### constants of the module -/
theorem ok_glob {x : Str} {v : V} {u : Value} {d : D} (hg : Gl C.X x) (hm : C.X.mg x = some u) (r : RelV v u) (hd : (x == ("__debug__" : Str)) = false) (hr : ∀ s, Rep C.K C.w s d v []) (hl : C.Φ.gl x = some d) : OkE C (.Name x pos) (fun _ => ofO (C.Φ.gl x)) := by
  rw [hl]
  exact ok_const (pe_glob hg hm r hd) hr
end
/-! ### calls -/
/-- what a function answers -/
def ResF (K : PySem.W.Frag) (w : World) (mg : Str → Option Value) (cls : Str → Option (List Str)) (s : Sx) (Q : VK) (E : XK) : R D → Prop
  | .ok d μ' => ∀ v s' o, Post K w s s' μ' d v o → Q v s'.H
  | .exc c fs μ' => ∀ s' Cl dd, Ev s s' → Wd K w s' μ' → XRep K w mg cls s' c fs Cl dd → E Cl dd s'.H
  | .bad => False
def SpF (K : PySem.W.Frag) (w : World) (mg : Str → Option Value) (cls : Str → Option (List Str)) (n : Nat) (F : List D → M D) : Sp := fun vs H Q E =>
  vs.length = n ∧ ∃ s ds μ, s.H = H ∧ Wd K w s μ ∧ RepL K w s ds vs [] ∧ ResF K w mg cls s Q E (F ds μ)
section
variable {C : Ctx} {e : Expr} {es : List Expr} {ga : Env → M (List D)} {pos p : Pos} {k np : Nat} {x : Str} {fa : Addr} {fd : FuncData} {ps : List Str}
theorem ok_call (gd : C.X.A.guards = some []) (F : FnG C.X.prog C.X.w C.X.K C.X.mg C.X.base k fa fd ps (SpF C.K C.w C.X.mg C.cls np (C.Φ.fn x))) (hr : Room k C.X.A) (hg : Gl C.X x) (hm : C.X.mg x = some (.ref fa)) (hk : PySem.W.keepIn C.X.K (.ref fa) = true)
    (hb : Binds C.X.K fd ps []) (tk : Takes C.X C.W) (ha : OkA C (e :: es) ga) (hn : np = (e :: es).length) (hl : ∀ ρ μ ds μ', ga ρ μ = .ok ds μ' → ds.length = (e :: es).length) (hdb : (x == ("__debug__" : Str)) = false) (hs : (e :: es).all notStar = true) :
    OkE C (.Call (.Name x p) (e :: es) [] pos) (fun ρ => M.bind (ga ρ) fun ds => C.Φ.fn x (D.fzL ds)) := by
  rw [List.all_cons, Bool.and_eq_true] at hs
  refine PE_imp (pe_callG F gd hr hg hm hk hb (passAt tk) ha hdb (notStar_ok hs.1 _ _) (noStars hs.2 _ _)) fun σ H Q ⟨s, ρ, own, μ, e1, p, q⟩ => ⟨s, ρ, own, μ, e1, p, q.bindE.mono fun ds μ1 ⟨he, h1⟩ vs s1 o ev wd r nd ow => ?_⟩
  have ev2 : Ev s (s1.less o) := ev.less fun a ha => (ow a ha).2.1
  refine ⟨by rw [← r.len, hl _ _ _ _ he, hn], s1.less o, D.fzL ds, μ1, rfl, wd.less fun a ha => (ow a ha).2.2, RepL.fz ds vs o r fun a ha => ha, ?_⟩
  have h1 : ResG C σ (C.Φ.fn x (D.fzL ds) μ1) _ := h1
  cases hc : C.Φ.fn x (D.fzL ds) μ1 with
  | ok d μ' =>
    rw [hc] at h1
    exact fun v s' o' po => h1 v s' o' (po.tr ev2)
  | exc c fs μ' =>
    rw [hc] at h1
    exact fun s' Cl dd e' W' X' => h1 s' Cl dd ((p.ev.trans ev2).trans e') W' X'
  | bad =>
    rw [hc] at h1
    exact h1
/-! arguments that stay one's own -/
def Sx.bare (s : Sx) : Sx := ⟨s.H, fun _ => False, []⟩
mutual
theorem Rep.bare {K : PySem.W.Frag} {w : World} {s : Sx} : ∀ (d : D) (v : V) (o : List Addr), Rep K w s d v o → d.nr = true → Rep K w s.bare d.fz v []
  | .non, _, _, h, _ => ⟨h.1, rfl⟩
  | .bl _, _, _, h, _ => ⟨h.1, rfl⟩
  | .int _, _, _, h, _ => ⟨h.1, rfl⟩
  | .str _, _, _, h, _ => ⟨h.1, rfl⟩
  | .tup ds, v, o, h, n => by
    obtain ⟨a, vs, e, q, r⟩ := h
    exact ⟨a, vs, e, q, RepL.bare ds vs o r n⟩
  | .lst true ds, v, o, h, n => by
    obtain ⟨a, vs, o', e, q, eo, r⟩ := h
    exact ⟨a, vs, e, .inl ⟨.inl q, fun z => z⟩, rfl, RepL.bare ds vs o' r n⟩
  | .lst false ds, v, o, h, n => by
    obtain ⟨a, vs, e, q, eo, r⟩ := h
    exact ⟨a, vs, e, q.imp (fun q => ⟨q.1, fun z => z⟩) id, rfl, RepL.bare ds vs [] r n⟩
  | .dct true ks ds, v, o, h, n => by
    obtain ⟨a, vs, e, q, eo, l, r⟩ := h
    exact ⟨a, vs, e, .inl ⟨.inl q, fun z => z⟩, rfl, by rw [fzL_len]; exact l, RepL.bare ds vs [] r n⟩
  | .dct false ks ds, v, o, h, n => by
    obtain ⟨a, vs, e, q, eo, l, r⟩ := h
    exact ⟨a, vs, e, q.imp (fun z => ⟨z.1, fun z => z⟩) id, rfl, by rw [fzL_len]; exact l, RepL.bare ds vs [] r n⟩
  | .ref _, _, _, _, n => by simp [D.nr] at n
  | .exn _ _, _, _, h, _ => h.elim
theorem RepL.bare {K : PySem.W.Frag} {w : World} {s : Sx} : ∀ (ds : List D) (vs : List V) (o : List Addr), RepL K w s ds vs o → D.nrL ds = true → RepL K w s.bare (D.fzL ds) vs []
  | [], _, _, h, _ => ⟨h.1, rfl⟩
  | d :: ds, vs, o, h, n => by
    obtain ⟨v, vs', o1, o2, e, eo, r1, r2⟩ := h
    have n' : (d.nr && D.nrL ds) = true := n
    obtain ⟨n1, n2⟩ := Bool.and_eq_true_iff.mp n'
    exact ⟨v, vs', [], [], e, rfl, Rep.bare d v o1 r1 n1, RepL.bare ds vs' o2 r2 n2⟩
end
/-- names as arguments, as they are -/
def tNms (is : List Nat) : TA := fun σ H Q => ∃ vs : List V, is.map (fun i => σ[i]?) = vs.map (fun v => some (some v)) ∧ Q vs H
def nmE (x : Str) : Expr → Bool
  | .Name y _ => y == x
  | _ => false
theorem pa_nms {X : Cx} : ∀ {es : List Expr} {is : List Nat}, (∀ j : Nat, ∀ e i, es[j]? = some e → is[j]? = some i → ∃ x p, e = .Name x p ∧ X.N[i]? = some x ∧ Vis X.env.scope x ∧ (x == ("__debug__" : Str)) = false ∧ (x == ("__classdict__" : Str)) = false) → es.length = is.length → PA X es (tNms is)
  | [], [], _, _ => PA_imp pa_nil fun σ H Q ⟨vs, e, q⟩ => by
    cases vs with
    | nil => exact q
    | cons _ _ => simp at e
  | [], _ :: _, _, l => by simp at l
  | _ :: _, [], _, l => by simp at l
  | e :: es, i :: is, h, l => by
    obtain ⟨x, p, rfl, hN, hv, h1, h2⟩ := h 0 e i rfl rfl
    refine PA_imp (pa_cons (pe_var hN hv h1 h2) (pa_nms (fun j e i a b => h (j + 1) e i (by simpa using a) (by simpa using b)) (by simpa using l)) rfl) fun σ H Q ⟨vs, e, q⟩ => ?_
    cases vs with
    | nil => simp at e
    | cons v vs =>
      rw [List.map_cons, List.map_cons, List.cons.injEq] at e
      exact ⟨v, e.1, vs, e.2, q⟩
def brwsK : List Nat → Env → M (List D)
  | [], _ => M.ret []
  | i :: is, ρ => M.bind (match ρ[i]? with
    | some (some d) => M.ret d
    | _ => M.bad) fun d => M.bind (brwsK is ρ) fun ds => M.ret (d :: ds)
theorem brws_ok {σ : L2.St} {s : Sx} {ρ : Env} {own : Nat → List Addr} {μ : Sto} (p : Pre C s ρ σ own μ) : ∀ {is : List Nat} {F : List D → Sto → Prop}, ResG C σ (brwsK is ρ μ) F → ∃ ds vs o, F ds μ ∧ is.map (fun i => σ[i]?) = vs.map (fun v => some (some v)) ∧ (D.nrL ds = true → RepL C.K C.w s ds vs o)
  | [], F, h => ⟨[], [], [], h.ret, rfl, fun _ => ⟨rfl, rfl⟩⟩
  | i :: is, F, h => by
    have h := (show ResG C σ (M.bind (match ρ[i]? with
    | some (some d) => M.ret d
    | _ => M.bad) (fun d => M.bind (brwsK is ρ) fun ds => M.ret (d :: ds)) μ) F from h).bind
    cases e : ρ[i]? with
    | none => simp only [e] at h; exact h.elim
    | some od =>
      cases od with
      | none => simp only [e] at h; exact h.elim
      | some d =>
        simp only [e] at h
        obtain ⟨ds, vs, o, h2, h3, h4⟩ := brws_ok p (h.ret : ResG C σ (M.bind (brwsK is ρ) (fun ds => M.ret (d :: ds)) μ) F).bind
        obtain ⟨v, hv, r⟩ := p.r.at_ i d e
        exact ⟨d :: ds, v :: vs, own i ++ o, h2, by rw [List.map_cons, List.map_cons, hv, h3], fun hn => by
          have n' : (d.nr && D.nrL ds) = true := hn
          obtain ⟨n1, n2⟩ := Bool.and_eq_true_iff.mp n'
          exact ⟨v, vs, own i, o, rfl, rfl, r.rep (fun c fs e => by rw [e] at n1; cases n1), h4 n2⟩⟩
theorem brws_len {ρ : Env} : ∀ {is : List Nat} {μ : Sto} {ds : List D} {μ' : Sto}, brwsK is ρ μ = .ok ds μ' → ds.length = is.length
  | [], _, _, _, h => by cases h; rfl
  | i :: is, μ, ds, μ', h => by
    obtain ⟨d, μ1, _, h⟩ := bind_ok h
    obtain ⟨es, μ2, h1, h⟩ := bind_ok h
    cases h
    rw [List.length_cons, List.length_cons, brws_len h1]
theorem ok_callB {is : List Nat} (gd : C.X.A.guards = some []) (F : FnG C.X.prog C.X.w C.X.K C.X.mg C.X.base k fa fd ps (SpF C.K C.w C.X.mg C.cls np (C.Φ.fn x))) (hr : Room k C.X.A) (hg : Gl C.X x) (hm : C.X.mg x = some (.ref fa)) (hk : PySem.W.keepIn C.X.K (.ref fa) = true)
    (hb : Binds C.X.K fd ps []) (tk : Takes C.X C.W) (hnm : ∀ j : Nat, ∀ e' i, (e :: es)[j]? = some e' → is[j]? = some i → ∃ x p, e' = .Name x p ∧ C.X.N[i]? = some x ∧ Vis C.X.env.scope x ∧ (x == ("__debug__" : Str)) = false ∧ (x == ("__classdict__" : Str)) = false)
    (hli : (e :: es).length = is.length) (hn : np = is.length) (hdb : (x == ("__debug__" : Str)) = false) (hs : (e :: es).all notStar = true) :
    OkE C (.Call (.Name x p) (e :: es) [] pos) (fun ρ => M.bind (brwsK is ρ) fun ds μ => match C.Φ.fn x (D.fzL ds) [] with
      | .ok d _ => if d.flat && D.nrL ds then .ok d μ else .bad
      | _ => .bad) := by
  rw [List.all_cons, Bool.and_eq_true] at hs
  refine PE_imp (pe_callG F gd hr hg hm hk hb (passAt tk) (pa_nms hnm hli) hdb (notStar_ok hs.1 _ _) (noStars hs.2 _ _)) fun σ H Q ⟨s, ρ, own, μ, e1, p, q⟩ => ?_
  obtain ⟨ds, vs, o, ⟨hE, h1⟩, h2, r⟩ := brws_ok p q.bindE
  refine ⟨vs, h2, ?_⟩
  have h1 : ResG C σ (match C.Φ.fn x (D.fzL ds) [] with
      | .ok d _ => if d.flat && D.nrL ds then .ok d μ else .bad
      | _ => .bad) fun d μ' => ∀ v s' o, Post C.K C.w s s' μ' d v o → Q v s'.H := h1
  cases hc : C.Φ.fn x (D.fzL ds) [] with
  | ok d μ' =>
    rw [hc] at h1
    have h1 : ResG C σ (if (d.flat && D.nrL ds) = true then .ok d μ else .bad) fun d μ' => ∀ v s' o, Post C.K C.w s s' μ' d v o → Q v s'.H := h1
    by_cases g : (d.flat && D.nrL ds) = true
    · rw [if_pos g] at h1
      rw [Bool.and_eq_true] at g
      have r := r g.2
      refine ⟨by rw [← r.len, brws_len hE, hn], s.bare, D.fzL ds, [], e1, ⟨fun _ z => z.elim, (fun _ z => nomatch z), List.nodup_nil, rfl, fun n a ds h => by simp [Sx.bare] at h⟩, RepL.bare ds vs o r g.2, ?_⟩
      rw [hc]
      intro v s' o' po
      have et : Ev s ⟨s'.H, s.O, s.ι⟩ := ⟨(fun a u h n => po.ev.ext a u h (fun z => nomatch z)), ⟨[], by simp, (fun _ z => nomatch z)⟩, fun _ h => h, fun _ h => .inl h, po.ev.live⟩
      refine h1 v ⟨s'.H, s.O, s.ι⟩ [] (Post.scal et ⟨fun a h => ?_, p.wd.sub, p.wd.nd, p.wd.len, fun n a ds h1 h2 => ?_⟩ ?_)
      · have m := p.wd.mt a h
        cases z : s.H a with
        | none => rw [z] at m; exact m.elim
        | some u =>
          show Mut (s'.H a)
          rw [po.ev.ext a u z (fun z => nomatch z)]
          rw [z] at m; exact m
      · obtain ⟨us, h3, h4⟩ := p.wd.at_ n a ds h1 h2
        exact ⟨us, po.ev.ext a _ h3 (fun z => nomatch z), et.repL p.wd h4⟩
      · obtain ⟨e2, _⟩ := po.rep.flat g.1
        rw [e2]
        cases d with
        | non => exact ⟨rfl, rfl⟩
        | bl _ => exact ⟨rfl, rfl⟩
        | int _ => exact ⟨rfl, rfl⟩
        | str _ => exact ⟨rfl, rfl⟩
        | _ => simp [D.flat] at g
    · rw [if_neg g] at h1
      exact h1.elim
  | exc c fs μ' => rw [hc] at h1; exact h1.elim
  | bad => rw [hc] at h1; exact h1.elim
end
end Vf

/-! VK -/
set_option autoImplicit false
set_option linter.all false
set_option Elab.async false
set_option maxHeartbeats 4000000
set_option maxRecDepth 10000
/-! VK: repr; sorted by data. -/
namespace Vf
open PySem PySem.Spec PyProof.Rows L2 PySem.Calls PySem.W
def rRepr (K : PySem.W.Frag) : List V → Hp → VK → Prop := fun vs H Q => ∃ (a : Addr) (d : PyData), vs = [V.ref a] ∧ Dp K H (V.ref a) d ∧ d.showable = true ∧ d.hasDict = false ∧ d.depth ≤ 60 ∧ d.shown.length ≤ sizeLine ∧ Q (.str d.shown) H
theorem cr_repr {X : Cx} (gd : X.A.guards = some []) (hu : X.A.units + 64 < cLine) : CallR X (.builtin "repr") (rRepr X.K) := by
  intro pins s σ H vs us Q I r ⟨a, d, e, hd, hs, hx, dp, sz, q⟩
  subst e
  obtain rfl := Vals.ref1 r
  obtain ⟨as, rr⟩ := Dp.reads I d (V.ref a) (.ref a) hd rfl
  exact repr_of_reads' rr hs (fun z => by rw [hx] at z; cases z) gd (by omega) (fun _ _ z => z) (fun h' u tk hk => ⟨.str d.shown, H, I.kept hk, ⟨u, rfl⟩, q⟩) sz
/-! ### sorted -/
def rSortD (K : PySem.W.Frag) : List V → Hp → VK → Prop := fun vs H Q => ∃ (a : Addr) (bs : List (V × PyData)), vs = [V.ref a] ∧ SqL K H a (bs.map Prod.fst) ∧ (∀ b ∈ bs, Dp K H b.1 b.2) ∧ PySem.W.AllAlike (bs.map Prod.snd) ∧ PySem.W.Sortable (bs.map Prod.snd) ∧ (∀ b ∈ bs, b.2.depth ≤ 60) ∧
  ∀ p : Addr, H p = none → Q (.ref p) (upd H p (.lst ((bs.mergeSort (PySem.W.dataLe false Prod.snd)).map Prod.fst)))
theorem each_rel : ∀ {bs : List (V × PyData)} {its : List Value}, Vals (bs.map Prod.fst) its → EachIs (fun v (b : V × PyData) => RelV b.1 v) its bs
  | [], _, h => by cases h; exact .nil
  | b :: bs, _, h => by
    cases h with
    | cons h1 h2 => exact .cons h1 (each_rel h2)
theorem rel_each : ∀ {bs : List (V × PyData)} {its : List Value}, EachIs (fun v (b : V × PyData) => RelV b.1 v) its bs → Vals (bs.map Prod.fst) its
  | _, _, .nil => .nil
  | _, _, .cons h t => .cons h (rel_each t)
theorem each_reads {X : Cx} {pins : List (Addr × Obj)} {σ : L2.St} {H : Hp} {s : Shared} (I : Inv X pins σ H s) : ∀ {bs : List (V × PyData)} {its : List Value}, Vals (bs.map Prod.fst) its → (∀ b ∈ bs, Dp X.K H b.1 b.2) → EachIs (fun v (b : V × PyData) => ∃ as, Reads s.heap v b.2 as) its bs
  | [], _, h, _ => by cases h; exact .nil
  | b :: bs, _, h, hd => by
    cases h with
    | cons h1 h2 => exact .cons (Dp.reads I b.2 b.1 _ (hd b List.mem_cons_self) h1) (each_reads I h2 fun c hc => hd c (List.mem_cons_of_mem _ hc))
theorem cr_sortD {X : Cx} (hu : X.A.units + 128 < cLine) : CallR X (.builtin "sorted") (rSortD X.K) := by
  intro pins s σ H vs us Q I r ⟨a, bs, e, hs, hd, hal, hk, dp, q⟩
  subst e
  obtain ⟨its, rv, hl, hz⟩ := I.list hs
  rw [Vals.ref1 r]
  have hz' : bs.length ≤ sizeLine := by rw [List.length_map] at hz; exact hz
  refine PySem.W.sorted_data (enc := Prod.snd) hl.isList (each_rel rv) (each_reads I rv hd) hal hk hz' (fun b hb => by have := dp b hb; omega) fun out hlo ho => ?_
  obtain ⟨ep, he'⟩ := PyProof.Rows.sortedAll_at s.heap its out.toArray
  have hlen : ((bs.mergeSort (PySem.W.dataLe false Prod.snd)).map Prod.fst).length ≤ sizeLine := by
    rw [List.length_map, List.length_mergeSort]; exact hz'
  exact ⟨.ref _, upd H (s.heap.objs.size + 1) (.lst ((bs.mergeSort (PySem.W.dataLe false Prod.snd)).map Prod.fst)), I.laid (t' := s.toks) (fun _ _ => PyProof.Rows.sortedAll_old) (Nat.le_succ _) ⟨hlen, out, ep, rel_each ho, he'⟩, rfl, q _ (I.hok.fresh (Nat.le_succ _))⟩
/-! ### by the evaluator -/
section
variable {C : Ctx} {σ : L2.St} {s : Sx} {μ : Sto} {x : D} {vx : V} {Q : VK}
theorem kRepr (W : Wd C.K C.w s μ) (rx : RepB C.K C.w s x vx) (h : ResG C σ (bltD .repr x μ) fun d μ' => ∀ v s' o, Post C.K C.w s s' μ' d v o → Q v s'.H) : rRepr C.K [vx] s.H Q := by
  have key : ∀ o : Option PyData, x.toP = o → (∃ a, vx = .ref a) → ResG C σ (reprP o μ) (fun d μ' => ∀ v s' o, Post C.K C.w s s' μ' d v o → Q v s'.H) → rRepr C.K [vx] s.H Q := by
    rintro (_ | p) e ⟨a, ev⟩ h
    · exact h.elim
    · obtain ⟨g, h⟩ := (show ResG C σ (guard' (p.showable && !p.hasDict && decide (p.depth ≤ 60) && decide (p.shown.length ≤ LINE)) (M.ret (D.str p.shown)) μ) _ from h).guard
      simp only [Bool.and_eq_true, Bool.not_eq_true', decide_eq_true_eq] at g
      have d := rx.dp e
      rw [ev] at d
      exact ⟨a, p, by rw [ev], d, g.1.1.1, g.1.1.2, g.1.2, by rw [← line_eq]; exact g.2, nil_post (d := .str p.shown) W ⟨rfl, rfl⟩ h.ret⟩
  cases x with
  | lst b ds =>
    obtain ⟨a, vs, ev, hq, r⟩ := rx
    exact key _ rfl ⟨a, ev⟩ h
  | tup ds =>
    obtain ⟨a, vs, ev, hq, r⟩ := rx
    exact key _ rfl ⟨a, ev⟩ h
  | _ => exact h.elim
/-- three lists beside each other -/
def zip3 : List V → List D → List PyData → List (V × D × PyData)
  | v :: vs, d :: ds, p :: ps => (v, d, p) :: zip3 vs ds ps
  | _, _, _ => []
theorem zip3_ok {K : PySem.W.Frag} {w : World} {s : Sx} : ∀ {vs : List V} {ds : List D} {ps : List PyData}, RepL K w s ds vs [] → D.toPL ds = some ps →
    (zip3 vs ds ps).map (fun b => b.1) = vs ∧ (zip3 vs ds ps).map (fun b => b.2) = ds.zip ps ∧ (zip3 vs ds ps).map (fun b => b.2.2) = ps ∧ ∀ b ∈ zip3 vs ds ps, Rep K w s b.2.1 b.1 [] ∧ b.2.1.toP = some b.2.2
  | vs, [], ps, h, e => by
    obtain ⟨rfl, _⟩ := h
    cases e
    exact ⟨rfl, rfl, rfl, fun _ z => nomatch z⟩
  | vs, d :: ds, ps, h, e => by
    obtain ⟨v, vs', ev, r1, r2⟩ := h.cons_of
    subst ev
    unfold D.toPL at e
    cases e1 : d.toP with
    | none => rw [e1] at e; cases e
    | some p =>
      cases e2 : D.toPL ds with
      | none => rw [e1, e2] at e; cases e
      | some qs =>
        rw [e1, e2] at e
        cases e
        obtain ⟨a1, a2, a3, a4⟩ := zip3_ok r2 e2
        refine ⟨congrArg (v :: ·) a1, congrArg ((d, p) :: ·) a2, congrArg (p :: ·) a3, fun b hb => ?_⟩
        rcases List.mem_cons.mp hb with rfl | hb
        · exact ⟨r1, e1⟩
        · exact a4 b hb
theorem repL_each {K : PySem.W.Frag} {w : World} {s : Sx} : ∀ {bs : List (V × D × PyData)}, (∀ b ∈ bs, Rep K w s b.2.1 b.1 []) → RepL K w s (bs.map fun b => b.2.1) (bs.map fun b => b.1) []
  | [], _ => ⟨rfl, rfl⟩
  | b :: bs, h => RepL.cons (h b List.mem_cons_self) (repL_each fun c hc => h c (List.mem_cons_of_mem _ hc))
theorem tupP_ok {p : PyData} (h : tupP p = true) : ∃ x r, p = .tuple (x :: r) := by
  cases p with
  | tuple xs => cases xs with
    | nil => cases h
    | cons x r => exact ⟨x, r, rfl⟩
  | _ => cases h
theorem noTupP_ok {p : PyData} (h : noTupP p = true) : p ≠ .none ∧ ∀ xs, p ≠ .tuple xs := by
  refine ⟨fun z => ?_, fun xs z => ?_⟩ <;> (rw [z] at h; cases h)
theorem kSortD (W : Wd C.K C.w s μ) (rx : RepB C.K C.w s x vx) (h : ResG C σ (bltD .sortd x μ) fun d μ' => ∀ v s' o, Post C.K C.w s s' μ' d v o → Q v s'.H) : rSortD C.K [vx] s.H Q := by
  cases x with
  | lst b ds =>
    obtain ⟨a, vs, ev, hq, r⟩ := rx
    have h : ResG C σ (sortdD ds μ) fun d μ' => ∀ v s' o, Post C.K C.w s s' μ' d v o → Q v s'.H := h
    unfold sortdD at h
    cases e : D.toPL ds with
    | none => rw [e] at h; exact h.elim
    | some ps =>
      rw [e] at h
      obtain ⟨g, h⟩ := (show ResG C σ (guard' (alikes ps && (ps.all tupP || ps.all noTupP) && ps.all fun p => decide (p.depth ≤ 60)) (M.ret (D.lst true (((ds.zip ps).mergeSort (PySem.W.dataLe false Prod.snd)).map Prod.fst))) μ) _ from h).guard
      unfold alikes at g
      simp only [Bool.and_eq_true, Bool.or_eq_true, List.all_eq_true, decide_eq_true_eq] at g
      obtain ⟨⟨g1, g2⟩, g3⟩ := g
      obtain ⟨a1, a2, a3, a4⟩ := zip3_ok r e
      have m1 : (zip3 vs ds ps).map (fun b => b.1) = ((zip3 vs ds ps).map fun b => (b.1, b.2.2)).map Prod.fst := by rw [List.map_map]; rfl
      have m2 : ((zip3 vs ds ps).map fun b => (b.1, b.2.2)).map Prod.snd = ps := by rw [List.map_map]; exact a3
      refine ⟨a, (zip3 vs ds ps).map fun b => (b.1, b.2.2), by rw [ev], by rw [← m1, a1]; exact hq.sq, fun c hc => ?_, by rw [m2]; exact fun p hp q hq => g1 p hp q hq, by rw [m2]; exact g2.imp (fun z p hp => tupP_ok (z p hp)) (fun z p hp => noTupP_ok (z p hp)), fun c hc => ?_, fun p hn => ?_⟩
      · obtain ⟨b, hb, rfl⟩ := List.mem_map.mp hc
        obtain ⟨r1, e1⟩ := a4 b hb
        exact Rep.dp b.2.1 b.1 [] b.2.2 r1 e1
      · obtain ⟨b, hb, rfl⟩ := List.mem_map.mp hc
        refine g3 b.2.2 ?_
        have : b.2.2 ∈ (zip3 vs ds ps).map (fun b => b.2.2) := List.mem_map.mpr ⟨b, hb, rfl⟩
        rw [a3] at this
        exact this
      · have s1 : (((zip3 vs ds ps).map fun b => (b.1, b.2.2)).mergeSort (PySem.W.dataLe false Prod.snd)) = ((zip3 vs ds ps).mergeSort (PySem.W.dataLe false fun b => b.2.2)).map fun b => (b.1, b.2.2) :=
          (List.map_mergeSort (f := fun b : V × D × PyData => (b.1, b.2.2)) fun _ _ _ _ => rfl).symm
        have s2 : ((ds.zip ps).mergeSort (PySem.W.dataLe false Prod.snd)) = ((zip3 vs ds ps).mergeSort (PySem.W.dataLe false fun b => b.2.2)).map fun b => b.2 := by
          rw [← a2]
          exact (List.map_mergeSort (f := fun b : V × D × PyData => b.2) fun _ _ _ _ => rfl).symm
        have h := h.ret
        rw [s2] at h
        rw [s1]
        have rr := repL_each (K := C.K) (w := C.w) (s := s) (bs := (zip3 vs ds ps).mergeSort (PySem.W.dataLe false fun b => b.2.2)) fun b hb => (a4 b (List.mem_mergeSort.mp hb)).1
        have e1 : (((zip3 vs ds ps).mergeSort (PySem.W.dataLe false fun b => b.2.2)).map fun b => (b.1, b.2.2)).map Prod.fst = ((zip3 vs ds ps).mergeSort (PySem.W.dataLe false fun b => b.2.2)).map fun b => b.1 := by rw [List.map_map]; rfl
        have e2 : (((zip3 vs ds ps).mergeSort (PySem.W.dataLe false fun b => b.2.2)).map fun b => b.2).map Prod.fst = ((zip3 vs ds ps).mergeSort (PySem.W.dataLe false fun b => b.2.2)).map fun b => b.2.1 := by rw [List.map_map]; rfl
        rw [e1]
        rw [e2] at h
        exact h (.ref p) (s.own p (.lst _)) [p] (Post.newL (Ev.refl s) W rr List.nodup_nil (fun _ z => nomatch z) hn)
  | _ => exact h.elim
end
end Vf

/-! V8 -/
set_option autoImplicit false
set_option linter.all false
set_option Elab.async false
set_option maxHeartbeats 1000000
/-! V8: targets, iterators. -/
namespace Vf
open PySem PySem.Spec PyProof.Rows L2

/-- from one statement to the next: what is frozen stays -/
structure Go (s s' : Sx) : Prop where
  kp : Kp s s'
  live : ∀ a, s'.H a = none → s.H a = none
section
variable {K : PySem.W.Frag} {w : World} {s s1 s' : Sx} {μ : Sto}
theorem Ev.go (e : Ev s s') (W : Wd K w s μ) : Go s s' := ⟨e.kp W, e.live⟩
theorem Go.refl (W : Wd K w s μ) : Go s s := (Ev.refl s).go W
theorem Go.trans (a : Go s s1) (b : Go s1 s') : Go s s' := by
  refine ⟨⟨a.kp.mt, fun x u h n => b.kp.ext x u (a.kp.ext x u h n) (a.kp.live h n), fun x h => ?_, ?_⟩, fun x h => a.live x (b.live x h)⟩
  · rcases b.kp.dn x h with q | q
    · exact a.kp.dn x q
    · exact .inr (a.live x q)
  · obtain ⟨t, e, f⟩ := a.kp.pre
    obtain ⟨t', e', f'⟩ := b.kp.pre
    exact ⟨t ++ t', by rw [e', e, List.append_assoc], fun x hx => (List.mem_append.mp hx).elim (f x) fun q => a.live x (f' x q)⟩
theorem Go.rep0 (g : Go s s') {d : D} {v : V} (h : Rep K w s d v []) : Rep K w s' d v [] := Rep.keep g.kp d v [] h fun _ z => nomatch z
theorem Go.repL (g : Go s s') {ds : List D} {vs : List V} (h : RepL K w s ds vs []) : RepL K w s' ds vs [] := RepL.keep g.kp ds vs [] h fun _ z => nomatch z
theorem Go.put {p : Addr} {u : HO} (W : Wd K w s μ) (hp : s.O p) : Go s (s.put p u) := ⟨Kp.put W hp, fun a h => by
  have h : upd s.H p u a = none := h
  by_cases e : a = p
  · rw [e, upd_same] at h; cases h
  · rw [upd_ne e] at h; exact h⟩
theorem Go.less {o : List Addr} (W : Wd K w s μ) : Go s (s.less o) := ⟨⟨W.mt, fun _ _ h _ => h, fun a h => .inl h.1, ⟨[], by simp [Sx.less], fun _ z => nomatch z⟩⟩, fun _ h => h⟩
end

/-! ### slots -/
theorem set_get {α : Type} {ρ : List (Option α)} {i j : Nat} {x y : α} (h : (ρ.set i (some x))[j]? = some (some y)) : (j = i ∧ y = x ∧ i < ρ.length) ∨ (j ≠ i ∧ ρ[j]? = some (some y)) := by
  by_cases e : j = i
  · subst e
    by_cases hl : j < ρ.length
    · rw [List.getElem?_set_self hl] at h
      exact .inl ⟨rfl, (Option.some.inj (Option.some.inj h)).symm, hl⟩
    · rw [List.getElem?_eq_none (by rw [List.length_set]; omega)] at h
      cases h
  · rw [List.getElem?_set_ne (Ne.symm e)] at h
    exact .inr ⟨e, h⟩
/-- owned things that no slot owns -/
structure Frs (C : Ctx) (s : Sx) (own : Nat → List Addr) (o : List Addr) : Prop where
  nd : o.Nodup
  ow : ∀ a ∈ o, s.O a ∧ a ∉ s.ι ∧ ¬ C.s0.O a
  ap : ∀ (i : Nat) (a : Addr), a ∈ own i → a ∉ o
section
variable {C : Ctx} {s s' : Sx} {ρ : Env} {σ : L2.St} {own : Nat → List Addr} {μ μ' : Sto} {d : D} {v : V} {o : List Addr}
theorem Frs.nil : Frs C s own [] := ⟨List.nodup_nil, (fun _ z => nomatch z), fun _ _ _ z => nomatch z⟩
theorem Post.frs (p : Pre C s ρ σ own μ) (po : Post C.K C.w s s' μ' d v o) : Frs C s' own o :=
  ⟨po.nd, fun a h => ⟨(po.ow a h).1, (po.ow a h).2.2, fun z => (po.ow a h).2.1 (p.ev.up a z)⟩, fun i a h z => (po.ow a z).2.1 (p.r.ow i a h).1⟩
theorem Pre.set (p : Pre C s ρ σ own μ) {i : Nat} (hi : i < ρ.length) (r : Rep C.K C.w s d v o) (f : Frs C s own o) : Pre C s (ρ.set i (some d)) (σ.set i (some v)) (fun j => if j = i then o else own j) μ := by
  refine ⟨⟨fun j e h => ?_, fun j a h => ?_, fun j => ?_, fun j k a hjk h h' => ?_, by rw [List.length_set, List.length_set]; exact p.r.len⟩, p.wd, p.ev, fun j a h => ?_⟩
  · rcases set_get h with ⟨rfl, rfl, hl⟩ | ⟨hn, h⟩
    · refine ⟨v, List.getElem?_set_self (by rw [← p.r.len]; exact hl), ?_⟩
      simp only [if_true]; exact RepX.of r
    · obtain ⟨u, h1, h2⟩ := p.r.at_ j e h
      refine ⟨u, by rw [List.getElem?_set_ne (Ne.symm hn)]; exact h1, ?_⟩
      simp only [if_neg hn]; exact h2
  · by_cases e : j = i
    · simp only [if_pos e] at h; exact ⟨(f.ow a h).1, (f.ow a h).2.1⟩
    · simp only [if_neg e] at h; exact p.r.ow j a h
  · by_cases e : j = i
    · simp only [if_pos e]; exact f.nd
    · simp only [if_neg e]; exact p.r.nd j
  · by_cases e : j = i
    · have e' : k ≠ i := fun z => hjk (e.trans z.symm)
      simp only [if_pos e] at h
      simp only [if_neg e'] at h'
      exact f.ap k a h' h
    · simp only [if_neg e] at h
      by_cases e' : k = i
      · simp only [if_pos e'] at h'; exact f.ap j a h h'
      · simp only [if_neg e'] at h'; exact p.r.ap j k a hjk h h'
  · by_cases e : j = i
    · simp only [if_pos e] at h; exact (f.ow a h).2.2
    · simp only [if_neg e] at h; exact p.fr j a h
theorem wipe_at {α : Type} {ρ : List (Option α)} {j : Nat} {x : α} : ∀ {is : List Nat} {f : List (Option α) → List Nat → List (Option α)}, (∀ ρ, f ρ [] = ρ) → (∀ ρ i is, f ρ (i :: is) = (f ρ is).set i none) → (f ρ is)[j]? = some (some x) → ρ[j]? = some (some x) ∧ j ∉ is
  | [], f, h0, _, h => by rw [h0] at h; exact ⟨h, by simp⟩
  | i :: is, f, h0, h1, h => by
    rw [h1] at h
    by_cases e : i = j
    · subst e
      by_cases hl : i < (f ρ is).length
      · rw [List.getElem?_set_self hl] at h; cases h
      · rw [List.getElem?_eq_none (by rw [List.length_set]; omega)] at h; cases h
    · rw [List.getElem?_set_ne e] at h
      obtain ⟨a, b⟩ := wipe_at h0 h1 h
      exact ⟨a, by simp only [List.mem_cons, not_or]; exact ⟨fun z => e z.symm, b⟩⟩
theorem wipe_len {α : Type} {ρ : List (Option α)} : ∀ {is : List Nat} {f : List (Option α) → List Nat → List (Option α)}, (∀ ρ, f ρ [] = ρ) → (∀ ρ i is, f ρ (i :: is) = (f ρ is).set i none) → (f ρ is).length = ρ.length
  | [], f, h0, _ => by rw [h0]
  | i :: is, f, h0, h1 => by rw [h1, List.length_set, wipe_len h0 h1]
theorem wipeS_out {σ : L2.St} {j : Nat} {x : V} : ∀ {is : List Nat}, j ∉ is → (L2.wipe σ is)[j]? = σ[j]?
  | [], _ => rfl
  | i :: is, h => by
    unfold L2.wipe
    have h := not_or.mp fun z => h (List.mem_cons.mpr z)
    rw [List.getElem?_set_ne (Ne.symm h.1)]
    exact wipeS_out (x := x) h.2
theorem Pre.wipe (p : Pre C s ρ σ own μ) (is : List Nat) : Pre C s (Vf.wipe ρ is) (L2.wipe σ is) own μ := by
  refine ⟨⟨fun j e h => ?_, p.r.ow, p.r.nd, p.r.ap, ?_⟩, p.wd, p.ev, p.fr⟩
  · obtain ⟨h1, h2⟩ := wipe_at (f := Vf.wipe) (fun _ => rfl) (fun _ _ _ => rfl) h
    obtain ⟨u, h3, h4⟩ := p.r.at_ j e h1
    exact ⟨u, by rw [wipeS_out (x := u) h2]; exact h3, h4⟩
  · rw [wipe_len (f := Vf.wipe) (fun _ => rfl) (fun _ _ _ => rfl), wipe_len (f := L2.wipe) (fun _ => rfl) (fun _ _ _ => rfl)]
    exact p.r.len
/-- an own object, that no slot owns, is written -/
theorem Pre.put (p : Pre C s ρ σ own μ) {a : Addr} {u : HO} (ha : s.O a) (hn : a ∉ s.ι) (h0 : C.s0.H a = none) (hd : ∀ j, a ∉ own j) (mu : Mut (some u)) : Pre C (s.put a u) ρ σ own μ := by
  have keep : ∀ b, b ≠ a → (s.put a u).H b = s.H b := fun b e => upd_ne e
  refine ⟨⟨fun j e h => ?_, p.r.ow, p.r.nd, p.r.ap, p.r.len⟩, p.wd.put ha hn mu, ?_, p.fr⟩
  · obtain ⟨v, h1, h2⟩ := p.r.at_ j e h
    exact ⟨v, h1, RepX.keep (Kp.put p.wd ha) h2 fun b hb => keep b fun e => hd j (by rw [← e]; exact hb)⟩
  · exact ⟨fun b x h n => (keep b fun e => by rw [e, h0] at h; cases h).trans (p.ev.ext b x h n), p.ev.pre, p.ev.up, p.ev.dn, fun b h => by
      by_cases e : b = a
      · rw [e]; exact h0
      · rw [keep b e] at h; exact p.ev.live b h⟩
theorem Frs.put (f : Frs C s own o) {a : Addr} {u : HO} : Frs C (s.put a u) own o := ⟨f.nd, f.ow, f.ap⟩
theorem Frs.step (f : Frs C s own o) (e : Ev s s') (W : Wd C.K C.w s μ) : Frs C s' own o := ⟨f.nd, fun a h => by
  have := e.ownS W (o := o) (fun a h => ⟨(f.ow a h).1, (f.ow a h).2.1⟩) a h
  exact ⟨this.1, this.2, (f.ow a h).2.2⟩, f.ap⟩
end
/-! ### targets -/
/-- the slots outside are as they were -/
def SameOut (is : List Nat) (σ σ' : L2.St) : Prop := σ'.length = σ.length ∧ ∀ j, j ∉ is → σ'[j]? = σ[j]?
theorem SameOut.refl {is : List Nat} {σ : L2.St} : SameOut is σ σ := ⟨rfl, fun _ _ => rfl⟩
theorem SameOut.trans {is js : List Nat} {σ σ1 σ2 : L2.St} (a : SameOut is σ σ1) (b : SameOut js σ1 σ2) : SameOut (is ++ js) σ σ2 :=
  ⟨b.1.trans a.1, fun j h => by
    have h := not_or.mp fun z => h (List.mem_append.mpr z)
    rw [b.2 j h.2, a.2 j h.1]⟩
theorem SameOut.set {i : Nat} {σ : L2.St} {x : Option V} : SameOut [i] σ (σ.set i x) := ⟨List.length_set .., fun j h => List.getElem?_set_ne (by simpa using fun e : i = j => h (by simp [e]))⟩
theorem wipe_in {σ : L2.St} {j : Nat} : ∀ {is : List Nat}, j ∈ is → j < σ.length → (L2.wipe σ is)[j]? = some none
  | [], h, _ => nomatch h
  | i :: is, h, hl => by
    unfold L2.wipe
    by_cases e : i = j
    · subst e
      exact List.getElem?_set_self (by rw [L2.wipe_length]; exact hl)
    · rw [List.getElem?_set_ne e]
      exact wipe_in ((List.mem_cons.mp h).resolve_left fun z => e z.symm) hl
theorem SameOut.wipe {is vs : List Nat} {σ σ' : L2.St} (h : SameOut is σ σ') (hs : ∀ i ∈ is, i ∈ vs) : L2.wipe σ' vs = L2.wipe σ vs := by
  apply List.ext_getElem?
  intro j
  by_cases hj : j ∈ vs
  · by_cases hl : j < σ.length
    · rw [wipe_in hj hl, wipe_in hj (by rw [h.1]; exact hl)]
    · rw [List.getElem?_eq_none (by rw [L2.wipe_length, h.1]; omega), List.getElem?_eq_none (by rw [L2.wipe_length]; omega)]
  · rw [wipeS_out (x := .non) hj, wipeS_out (x := .non) hj]
    exact h.2 j fun z => hj (hs j z)
theorem wipe_wipe {σ : L2.St} {vs : List Nat} : L2.wipe (L2.wipe σ vs) vs = L2.wipe σ vs := by
  apply List.ext_getElem?
  intro j
  by_cases hj : j ∈ vs
  · by_cases hl : j < σ.length
    · rw [wipe_in hj (by rw [L2.wipe_length]; exact hl), wipe_in hj hl]
    · rw [List.getElem?_eq_none (by rw [L2.wipe_length, L2.wipe_length]; omega), List.getElem?_eq_none (by rw [L2.wipe_length]; omega)]
  · rw [wipeS_out (x := .non) hj]
def OwnIn (own own' : Nat → List Addr) (o : List Addr) : Prop := ∀ j a, a ∈ own' j → (∃ k, a ∈ own k) ∨ a ∈ o
theorem OwnIn.refl {own : Nat → List Addr} {o : List Addr} : OwnIn own own o := fun j a h => .inl ⟨j, h⟩
theorem OwnIn.trans {a b c : Nat → List Addr} (h1 : OwnIn a b []) (h2 : OwnIn b c []) : OwnIn a c [] := fun j x h => by
  rcases h2 j x h with ⟨k, h⟩ | h
  · exact h1 k x h
  · cases h
def tG (C : Ctx) (t : T) : TG := fun v σ H Q => ∃ s ρ own μ d o ρ', s.H = H ∧ Pre C s ρ σ own μ ∧ Rep C.K C.w s d v o ∧ Frs C s own o ∧ asg t d ρ = some ρ' ∧
  ∀ σ' own', Pre C s ρ' σ' own' μ → OwnIn own own' o → SameOut t.ix σ σ' → Q σ' s.H
def tGs (C : Ctx) (ts : List T) : TGs := fun vs σ H Q => ∃ s ρ own μ ds ρ', s.H = H ∧ Pre C s ρ σ own μ ∧ RepL C.K C.w s ds vs [] ∧ asgL ts ds ρ = some ρ' ∧
  ∀ σ' own', Pre C s ρ' σ' own' μ → OwnIn own own' [] → SameOut (T.ixL ts) σ σ' → Q σ' s.H
abbrev OkG (C : Ctx) (e : Expr) (t : T) : Prop := PG C.X e (tG C t)
abbrev OkGs (C : Ctx) (e : List Expr) (t : List T) : Prop := PGs C.X e (tGs C t)
theorem PG_imp {X : Cx} {e : Expr} {t t' : TG} (h : PG X e t) (i : ∀ v σ H Q, t' v σ H Q → t v σ H Q) : PG X e t' := ⟨fun pins s σ H v u Q I r q => h.run pins s σ H v u Q I r (i v σ H Q q)⟩
theorem PGs_imp {X : Cx} {e : List Expr} {t t' : TGs} (h : PGs X e t) (i : ∀ v σ H Q, t' v σ H Q → t v σ H Q) : PGs X e t' := ⟨fun pins s σ H v u Q I r q => h.run pins s σ H v u Q I r (i v σ H Q q)⟩
theorem asgEach_ok {e : Expr} (h : notStar e = true) (es : List Expr) (env : PySem.Env) : assignEach (e :: es) env = (false, assign e env) :: assignEach es env := by
  cases e <;> first | rfl | cases h
section
variable {C : Ctx} {e : Expr} {es : List Expr} {t : T} {ts : List T} {pos : Pos}
theorem ok_gname {i : Nat} {x : Str} (hN : C.X.N.Nodup) (hi : C.X.N[i]? = some x) (hx : Loc C.X.env.scope x) (hf : C.X.fn x = true ∨ C.X.env.scope.names.lookup x = some .local) : OkG C (.Name x pos) (.nm i) :=
  PG_imp (pg_name hN hi hx hf) fun v σ H Q ⟨s, ρ, own, μ, d, o, ρ', e1, p, r, f, ea, k⟩ => by
    have ea : (if i < ρ.length then some (ρ.set i (some d)) else none) = some ρ' := ea
    by_cases hl : i < ρ.length
    · rw [if_pos hl] at ea
      cases ea
      show Q (σ.set i (some v)) H
      rw [← e1]
      exact k _ _ (p.set hl r f) (fun j a h => by
        by_cases e : j = i
        · simp only [if_pos e] at h; exact .inr h
        · simp only [if_neg e] at h; exact .inl ⟨j, h⟩) SameOut.set
    · rw [if_neg hl] at ea; cases ea
theorem ok_gnil : OkGs C [] [] := PGs_imp pgs_nil fun vs σ H Q ⟨s, ρ, own, μ, ds, ρ', e1, p, r, ea, k⟩ => by
  cases ds with
  | nil =>
    cases ea
    exact ⟨r.1, by rw [← e1]; exact k σ own p OwnIn.refl SameOut.refl⟩
  | cons _ _ => cases ea
theorem ok_gcons (h1 : OkG C e t) (h2 : OkGs C es ts) (hs : notStar e = true) : OkGs C (e :: es) (t :: ts) :=
  PGs_imp (pgs_cons h1 h2 (by rw [asgEach_ok hs]; rfl)) fun vs σ H Q ⟨s, ρ, own, μ, ds, ρ', e1, p, r, ea, k⟩ => by
    cases ds with
    | nil => cases ea
    | cons d ds =>
      obtain ⟨v, vs', ev, r1, r2⟩ := r.cons_of
      subst ev
      unfold asgL at ea
      cases e2 : asg t d ρ with
      | none => rw [e2] at ea; cases ea
      | some ρ1 =>
        rw [e2] at ea
        exact ⟨v, vs', rfl, s, ρ, own, μ, d, [], ρ1, e1, p, r1, Frs.nil, e2, fun σ1 own1 p1 oi so => ⟨s, ρ1, own1, μ, ds, ρ', rfl, p1, r2, ea, fun σ2 own2 p2 oi2 so2 => by rw [e1] at *; exact k σ2 own2 p2 (oi.trans oi2) (so.trans so2)⟩⟩
theorem asgL_len : ∀ {ts : List T} {ds : List D} {ρ ρ' : Env}, asgL ts ds ρ = some ρ' → ds.length = ts.length
  | [], [], _, _, _ => rfl
  | [], _ :: _, _, _, h => by cases h
  | _ :: _, [], _, _, h => by cases h
  | t :: ts, d :: ds, ρ, ρ', h => by
    unfold asgL at h
    cases e : asg t d ρ with
    | none => rw [e] at h; cases h
    | some ρ1 => rw [e] at h; rw [List.length_cons, List.length_cons, asgL_len h]
theorem eachLen : ∀ {es : List Expr} {env : PySem.Env}, es.all notStar = true → (assignEach es env).length = es.length ∧ (assignEach es env).findIdx? (·.1) = none
  | [], _, _ => ⟨rfl, rfl⟩
  | e :: es, env, h => by
    rw [List.all_cons, Bool.and_eq_true] at h
    obtain ⟨a, b⟩ := eachLen (env := env) h.2
    rw [asgEach_ok h.1]
    refine ⟨by rw [List.length_cons, a, List.length_cons], ?_⟩
    rw [List.findIdx?_cons]
    simp [b]
theorem ok_gtup {k : Nat} (hc : C.X.calm = true) (h : OkGs C es ts) (hl : es.length = ts.length) (hs : es.all notStar = true) : OkG C (.Tuple es k pos) (.tup ts) :=
  PG_imp (pg_tup (n := ts.length) hc h ((eachLen hs).1.trans hl) (eachLen hs).2) fun v σ H Q ⟨s, ρ, own, μ, d, o, ρ', e1, p, r, f, ea, q⟩ => by
    cases d with
    | tup ds =>
      have ea : (if D.nbL ds = true then asgL ts ds ρ else none) = some ρ' := ea
      by_cases nb : D.nbL ds = true
      · rw [if_pos nb] at ea
        obtain ⟨a, vs, ev, hq, rr⟩ := r
        have eo := RepL.nb _ _ _ rr nb
        subst eo
        exact ⟨a, vs, ev, by rw [← e1]; exact hq, by rw [← rr.len, asgL_len ea], s, ρ, own, μ, ds, ρ', e1, p, rr, ea, q⟩
      · rw [if_neg nb] at ea; cases ea
    | _ => cases ea
end
/-! ### iterators -/
/-- it gives these, one by one, whatever comes between -/
def WalkK (K : PySem.W.Frag) (w : World) (s : Sx) (xs : List D) (J : It) : Prop := ∃ G Y, Walk J xs.length G Y ∧ (∀ s', Go s s' → G s'.H) ∧
  ∀ (i : Nat) (s' : Sx) (μ : Sto) (x : V) (H' : Hp), i < xs.length → Go s s' → Wd K w s' μ → Y i s'.H x H' → ∃ s3 d, s3.H = H' ∧ Ev s' s3 ∧ Wd K w s3 μ ∧ xs[i]? = some d ∧ Rep K w s3 d x []
def tI (C : Ctx) (f : Env → M (List D)) : TI := fun σ H R => ∃ s ρ own μ, s.H = H ∧ Pre C s ρ σ own μ ∧ ResG C σ (f ρ μ) fun xs μ' => ∀ J s', Ev s s' → Wd C.K C.w s' μ' → WalkK C.K C.w s' xs J → R J s'.H
abbrev OkI (C : Ctx) (tg e : Expr) (f : Env → M (List D)) : Prop := PI C.X tg e (tI C f)
theorem PI_imp {X : Cx} {tg e : Expr} {t t' : TI} (h : PI X tg e t) (i : ∀ σ H Q, t' σ H Q → t σ H Q) : PI X tg e t' := ⟨fun pins s σ H Q I q => h.run pins s σ H Q I (i σ H Q q)⟩
section
variable {K : PySem.W.Frag} {w : World} {s s' : Sx} {a b : Addr} {ds es : List D} {vs us : List V} {μ : Sto}
theorem Go.fzL (g : Go s s') (h : FzL K s a vs) : FzL K s' a vs := g.kp.fzL h
theorem walkK_lst (h : FzL K s a vs) (r : RepL K w s ds vs []) : WalkK K w s ds (Itl K a) := by
  refine ⟨_, _, by rw [r.len]; exact walk_list (xs := vs), fun s' g => (g.fzL h).sq, fun i s' μ x H' hi g W y => ?_⟩
  obtain ⟨e, hx⟩ := y
  obtain ⟨v, h1, h2⟩ := r.at_ (List.getElem?_eq_getElem hi)
  rw [hx] at h1; cases h1
  exact ⟨s', ds[i], e.symm, Ev.refl s', W, List.getElem?_eq_getElem hi, g.rep0 h2⟩
theorem walkK_tup (h : SqT K s.H a vs) (r : RepL K w s ds vs []) : WalkK K w s ds (Itt K a) := by
  refine ⟨_, _, by rw [r.len]; exact walk_tup (xs := vs), fun s' g => g.kp.sqT h, fun i s' μ x H' hi g W y => ?_⟩
  obtain ⟨e, hx⟩ := y
  obtain ⟨v, h1, h2⟩ := r.at_ (List.getElem?_eq_getElem hi)
  rw [hx] at h1; cases h1
  exact ⟨s', ds[i], e.symm, Ev.refl s', W, List.getElem?_eq_getElem hi, g.rep0 h2⟩
theorem walkK_rng {i j : Int} : WalkK K w s ((List.range (j - i).toNat).map fun k => .int (i + (k : Nat))) (Itr i (j - i).toNat) := by
  refine ⟨_, _, by rw [List.length_map, List.length_range]; exact walk_range, fun s' g => trivial, fun k s' μ x H' hk g W y => ?_⟩
  obtain ⟨e, hx⟩ := y
  rw [List.length_map, List.length_range] at hk
  exact ⟨s', .int (i + (k : Nat)), e.symm, Ev.refl s', W, by simp [hk], hx, rfl⟩
theorem pair_ok {d1 d2 : D} {x : V} {H' : Hp} {x1 x2 : V} {T : Addr} (W : Wd K w s μ) (hx : x = .ref T) (hT : s.H T = none) (hH : H' = upd s.H T (.tup [x1, x2])) (r1 : Rep K w s d1 x1 []) (r2 : Rep K w s d2 x2 []) :
    ∃ s3, s3.H = H' ∧ Ev s s3 ∧ Wd K w s3 μ ∧ Rep K w s3 (.tup [d1, d2]) x [] := by
  have e := Ev.tup (s := s) (p := T) hT (u := .tup [x1, x2])
  exact ⟨s.tup T (.tup [x1, x2]), hH.symm, e, W.tup hT, T, [x1, x2], hx, .of upd_same, RepL.cons (e.rep0 W r1) (RepL.cons (e.rep0 W r2) ⟨rfl, rfl⟩)⟩
theorem num_len : ∀ (n : Nat) (ds : List D), (num n ds).length = ds.length
  | _, [] => rfl
  | n, d :: ds => by show (num (n + 1) ds).length + 1 = ds.length + 1; rw [num_len]
theorem num_at : ∀ {n : Nat} {ds : List D} {i : Nat} {d : D}, ds[i]? = some d → (num n ds)[i]? = some (.tup [.int ((n + i : Nat) : Int), d])
  | _, [], _, _, h => by simp at h
  | n, x :: ds, 0, d, h => by
    simp at h; subst h; rfl
  | n, x :: ds, i + 1, d, h => by
    show (num (n + 1) ds)[i]? = _
    rw [num_at (n := n + 1) (d := d) (by simpa using h)]
    congr 5
    omega
theorem walkK_enum (h : FzL K s a vs) (r : RepL K w s ds vs []) : WalkK K w s (num 0 ds) (Ite K a) := by
  refine ⟨_, _, by rw [num_len, r.len]; exact walk_enum (xs := vs), fun s' g => (g.fzL h).sq, fun i s' μ x H' hi g W y => ?_⟩
  rw [num_len] at hi
  obtain ⟨T, x1, x2, hx, hT, hH, e1, e2⟩ := y
  obtain ⟨v, h1, h2⟩ := r.at_ (List.getElem?_eq_getElem hi)
  have e2 : vs[i]? = some x2 := e2
  rw [e2] at h1; cases h1
  have e1 := Option.some.inj e1
  obtain ⟨s3, a1, a2, a3, a4⟩ := pair_ok (d1 := .int (i : Nat)) W hx hT hH ⟨e1.symm, rfl⟩ (g.rep0 h2)
  exact ⟨s3, _, a1, a2, a3, by rw [num_at (List.getElem?_eq_getElem hi)]; simp, a4⟩
theorem zip_len : ∀ (ds es : List D), (zipD ds es).length = min ds.length es.length
  | [], _ => by simp [zipD]
  | _ :: _, [] => by simp [zipD]
  | d :: ds, e :: es => by show (zipD ds es).length + 1 = min (ds.length + 1) (es.length + 1); rw [zip_len]; omega
theorem zip_at : ∀ {ds es : List D} {i : Nat} {d e : D}, ds[i]? = some d → es[i]? = some e → (zipD ds es)[i]? = some (.tup [d, e])
  | [], _, _, _, _, h, _ => by simp at h
  | _ :: _, [], _, _, _, _, h => by simp at h
  | x :: ds, y :: es, 0, d, e, h1, h2 => by
    simp at h1 h2; subst h1 h2; rfl
  | x :: ds, y :: es, i + 1, d, e, h1, h2 => zip_at (ds := ds) (es := es) (by simpa using h1) (by simpa using h2)
/-- by pairs -/
theorem walkK_pair {J : It} {G : Hp → Prop} (hw : Walk J (min vs.length us.length) G (YPair (fun i => vs[i]?) (fun i => us[i]?))) (hG : ∀ s', Go s s' → G s'.H) (r : RepL K w s ds vs []) (r' : RepL K w s es us []) : WalkK K w s (zipD ds es) J := by
  refine ⟨G, _, by rw [zip_len, r.len, r'.len]; exact hw, hG, fun i s' μ x H' hi g W y => ?_⟩
  rw [zip_len] at hi
  obtain ⟨T, x1, x2, hx, hT, hH, e1, e2⟩ := y
  obtain ⟨v, h1, h2⟩ := r.at_ (List.getElem?_eq_getElem (show i < ds.length by omega))
  obtain ⟨v', h1', h2'⟩ := r'.at_ (List.getElem?_eq_getElem (show i < es.length by omega))
  have e1 : vs[i]? = some x1 := e1
  have e2 : us[i]? = some x2 := e2
  rw [e1] at h1; cases h1
  rw [e2] at h1'; cases h1'
  obtain ⟨s3, a1, a2, a3, a4⟩ := pair_ok W hx hT hH (g.rep0 h2) (g.rep0 h2')
  exact ⟨s3, _, a1, a2, a3, zip_at (List.getElem?_eq_getElem (by omega)) (List.getElem?_eq_getElem (by omega)), a4⟩
theorem walkK_rev (h : FzL K s a vs) (r : RepL K w s ds vs []) : WalkK K w s ds.reverse (Itv K a vs.length) := by
  refine ⟨_, _, by rw [List.length_reverse, r.len]; exact walk_rev (xs := vs), fun s' g => (g.fzL h).sq, fun i s' μ x H' hi g W y => ?_⟩
  obtain ⟨e, hx⟩ := y
  rw [List.length_reverse] at hi
  have hi' : vs.length - 1 - i < ds.length := by rw [← r.len]; omega
  obtain ⟨v, h1, h2⟩ := r.at_ (List.getElem?_eq_getElem hi')
  rw [hx] at h1; cases h1
  refine ⟨s', _, e.symm, Ev.refl s', W, ?_, g.rep0 h2⟩
  rw [List.getElem?_reverse hi]
  have e3 : ds.length - 1 - i = vs.length - 1 - i := by rw [r.len]
  rw [e3, List.getElem?_eq_getElem hi']
end
/-! a value that is frozen ahead of the walk -/
theorem Post.fzn {K : PySem.W.Frag} {w : World} {s s1 : Sx} {μ : Sto} {d : D} {v : V} {o : List Addr} (p : Post K w s s1 μ d v o) : Ev s (s1.less o) ∧ Wd K w (s1.less o) μ ∧ Rep K w (s1.less o) d.fz v [] :=
  ⟨p.ev.less fun a ha => (p.ow a ha).2.1, p.wd.less fun a ha => (p.ow a ha).2.2, Rep.fz d v o p.rep fun a ha => ha⟩
section
variable {C : Ctx} {tg e e2 a b : Expr} {f g : Env → M D} {pos p tpos : Pos}
abbrev fzK (f : Env → M D) : Env → M D := fun ρ => M.bind (f ρ) (opnd false)
/-- a list or a tuple that is walked -/
def iSeq (K : PySem.W.Frag) (te : TE) : TI := fun σ H R => te σ H fun x H1 => ∃ a, x = .ref a ∧ (((∃ xs, SqL K H1 a xs) ∧ R (Itl K a) H1) ∨ ((∃ xs, SqT K H1 a xs) ∧ R (Itt K a) H1))
theorem pi_seq {X : Cx} {l : Expr} {tl : TE} (hl : PE X l tl) : PI X tg l (iSeq X.K tl) := by
  refine ⟨fun pins s σ H R I h => ?_⟩
  refine thn (hl.run pins s σ H _ I h) fun v s1 ⟨x, H1, I1, r1, q1⟩ => ?_
  obtain ⟨a, e, q⟩ := q1
  subst e
  cases r1
  rcases q with ⟨⟨xs, hq⟩, q⟩ | ⟨⟨xs, hq⟩, q⟩
  · obtain ⟨its, rv, p, hz⟩ := I1.list hq
    refine wpAny_pyIter_list p.isList ?_
    refine ⟨s1.heap.objs.size, [s1.heap.objs.size], _, _, H1, rfl, I1.kept (t' := s1.toks) fun b o e => Heap.get?_push_of_some _ e, turn_list a _, ⟨_, Heap.get?_push_size _ rfl, rfl, rfl⟩, fun b hb => ?_, q⟩
    have e : b = s1.heap.objs.size := by simpa using hb
    subst e
    exact I1.fpOk (Nat.le_refl _) (I1.hok.fresh (Nat.le_refl _))
  · obtain ⟨its, rv, p, hz⟩ := I1.tuple hq
    refine wpAny_pyIter_tuple (show s1.heap.IsTuple a its.toArray from p) ?_
    refine ⟨s1.heap.objs.size, [s1.heap.objs.size], _, _, H1, rfl, I1.kept (t' := s1.toks) fun b o e => Heap.get?_push_of_some _ e, turn_tuple a _, ⟨_, Heap.get?_push_size _ rfl, rfl, rfl⟩, fun b hb => ?_, q⟩
    have e : b = s1.heap.objs.size := by simpa using hb
    subst e
    exact I1.fpOk (Nat.le_refl _) (I1.hok.fresh (Nat.le_refl _))
theorem items_ok {d : D} {μ : Sto} {σ : L2.St} {F : List D → Sto → Prop} (h : ResG C σ (items d μ) F) : (∃ b ds, d = .lst b ds ∧ F ds μ) ∨ ∃ ds, d = .tup ds ∧ F ds μ := by
  cases d with
  | lst b ds => exact .inl ⟨b, ds, rfl, h⟩
  | tup ds => exact .inr ⟨ds, rfl, h⟩
  | _ => exact h.elim
theorem fz_lst {d : D} {b : Bool} {ds : List D} (h : d.fz = .lst b ds) : b = false := by
  cases d <;> simp [D.fz] at h
  exact h.1.symm ▸ rfl
theorem ok_iseq (h : OkE C e f) : OkI C tg e (fun ρ => M.bind (fzK f ρ) items) :=
  PI_imp (pi_seq h) fun σ H R ⟨s, ρ, own, μ, e1, p, q⟩ => ⟨s, ρ, own, μ, e1, p, q.bind.bind.mono fun d μ1 h1 v s1 o po => by
    obtain ⟨ev, wd, r⟩ := po.fzn
    have h1 : ResG C σ (items d.fz μ1) _ := h1
    rcases items_ok h1 with ⟨b, ds, ed, hF⟩ | ⟨ds, ed, hF⟩
    · have hb := fz_lst ed
      subst hb
      rw [ed] at r
      obtain ⟨a, vs, ev', hq, _, rr⟩ := r
      exact ⟨a, ev', .inl ⟨⟨vs, hq.sq⟩, hF _ (s1.less o) ev wd (walkK_lst hq rr)⟩⟩
    · rw [ed] at r
      obtain ⟨a, vs, ev', hq, rr⟩ := r
      exact ⟨a, ev', .inr ⟨⟨vs, hq⟩, hF _ (s1.less o) ev wd (walkK_tup hq rr)⟩⟩⟩
end
end Vf

/-! V9 -/
set_option autoImplicit false
set_option linter.all false
set_option Elab.async false
set_option maxHeartbeats 1000000
/-! V9: ranges, enumerate, zip, reversed; comprehensions. -/
namespace Vf
open PySem PySem.Spec PyProof.Rows L2

section
variable {C : Ctx} {tg e e2 a b : Expr} {f g : Env → M D} {pos p tpos : Pos}
theorem p62 : (4611686018427387904 : Int) = 2 ^ 62 := by decide
def rng1K (f : Env → M D) : Env → M (List D) := fun ρ => M.bind (f ρ) fun | .int j => rng 0 j | _ => M.bad
def rng2K (f g : Env → M D) : Env → M (List D) := fun ρ => M.bind (f ρ) fun x => M.bind (g ρ) fun y => match x, y with | .int i, .int j => rng i j | _, _ => M.bad
theorem ok_irng1 (hg : Gl C.X "range") (hm : C.X.mg "range" = none) (h : OkE C a f) (hs : notStar a = true) : OkI C tg (.Call (.Name "range" p) [a] [] pos) (rng1K f) :=
  PI_imp (pi_range1 hg hm (pa_cons h pa_nil (notStar_ok hs [] _)) (notStar_ok hs [] _)) fun σ H R ⟨s, ρ, own, μ, e1, p, q⟩ => ⟨s, ρ, own, μ, e1, p, q.bind.mono fun d μ1 h1 v s1 o po => by
    cases d with
    | int j =>
      obtain ⟨g, h1⟩ := (show ResG C σ (rng 0 j μ1) _ from h1).guard
      have g := of_decide_eq_true g
      have h1 := h1.ret (Itr 0 j.toNat) s1 po.ev po.wd (by have z := walkK_rng (K := C.K) (w := C.w) (s := s1) (i := 0) (j := j); simpa using z)
      exact ⟨j, by rw [po.rep.1], by rw [← p62]; exact g.2.2.1, by rw [← p62]; exact g.2.2.2, h1⟩
    | _ => exact h1.elim⟩
theorem ok_irng2 (hg : Gl C.X "range") (hm : C.X.mg "range" = none) (ha : OkE C a f) (hb : OkE C b g) (hs : notStar a = true) (hs2 : notStar b = true) : OkI C tg (.Call (.Name "range" p) [a, b] [] pos) (rng2K f g) :=
  PI_imp (pi_range2 hg hm (pa_cons ha (pa_cons hb pa_nil (notStar_ok hs2 [] _)) (notStar_ok hs _ _)) (by rw [notStar_ok hs, notStar_ok hs2]; rfl) (by rw [notStar_ok hs2]; rfl)) fun σ H R ⟨s, ρ, own, μ, e1, p, q⟩ => ⟨s, ρ, own, μ, e1, p, q.bind.mono fun d μ1 h1 v s1 o po =>
    ⟨s1, ρ, own, μ1, rfl, p.step po.ev po.wd, h1.bind.mono fun d2 μ2 h2 v2 s2 o2 po2 => by
      cases d with
      | int i =>
        cases d2 with
        | int j =>
          obtain ⟨g, h1⟩ := (show ResG C σ (rng i j μ2) _ from h2).guard
          have g := of_decide_eq_true g
          have h1 := h1.ret (Itr i (j - i).toNat) s2 (po.ev.trans po2.ev) po2.wd walkK_rng
          rw [p62] at g
          exact ⟨i, j, by rw [po.rep.1, po2.rep.1], g, h1⟩
        | _ => exact h2.elim
      | _ => exact h2.elim⟩⟩
theorem itemsL_ok {d : D} {μ : Sto} {σ : L2.St} {F : List D → Sto → Prop} (h : ResG C σ (itemsL d μ) F) : ∃ b ds, d = .lst b ds ∧ F ds μ := by
  cases d with
  | lst b ds => exact ⟨b, ds, rfl, h⟩
  | _ => exact h.elim
def enumK (f : Env → M D) : Env → M (List D) := fun ρ => M.bind (fzK f ρ) fun x => M.bind (itemsL x) fun ds => M.ret (num 0 ds)
theorem ok_ienum {elts : List Expr} {kk : Nat} (hg : Gl C.X "enumerate") (hm : C.X.mg "enumerate" = none) (h : OkE C e f) (hs : notStar e = true) : OkI C (.Tuple elts kk tpos) (.Call (.Name "enumerate" p) [e] [] pos) (enumK f) :=
  PI_imp (pi_enum hg hm (pa_cons h pa_nil (notStar_ok hs [] _)) (notStar_ok hs [] _)) fun σ H R ⟨s, ρ, own, μ, e1, p, q⟩ => ⟨s, ρ, own, μ, e1, p, q.bind.bind.mono fun d μ1 h1 v s1 o po => by
    obtain ⟨ev, wd, r⟩ := po.fzn
    have h1 : ResG C σ (M.bind (itemsL d.fz) (fun ds => M.ret (num 0 ds)) μ1) _ := h1
    obtain ⟨b, ds, ed, hF⟩ := itemsL_ok h1.bind
    have hb := fz_lst ed
    subst hb
    rw [ed] at r
    obtain ⟨a, vs, ev', hq, _, rr⟩ := r
    exact ⟨a, vs, by rw [ev'], hq.sq, hF.ret _ (s1.less o) ev wd (walkK_enum hq rr)⟩⟩
def irevK (f : Env → M D) : Env → M (List D) := fun ρ => M.bind (fzK f ρ) fun x => M.bind (itemsL x) fun ds => M.ret ds.reverse
theorem ok_irev (hg : Gl C.X "reversed") (hm : C.X.mg "reversed" = none) (h : OkE C e f) (hs : notStar e = true) : OkI C tg (.Call (.Name "reversed" p) [e] [] pos) (irevK f) :=
  PI_imp (pi_reversed hg hm (pa_cons h pa_nil (notStar_ok hs [] _)) (notStar_ok hs [] _)) fun σ H R ⟨s, ρ, own, μ, e1, p, q⟩ => ⟨s, ρ, own, μ, e1, p, q.bind.bind.mono fun d μ1 h1 v s1 o po => by
    obtain ⟨ev, wd, r⟩ := po.fzn
    have h1 : ResG C σ (M.bind (itemsL d.fz) (fun ds => M.ret ds.reverse) μ1) _ := h1
    obtain ⟨b, ds, ed, hF⟩ := itemsL_ok h1.bind
    have hb := fz_lst ed
    subst hb
    rw [ed] at r
    obtain ⟨a, vs, ev', hq, _, rr⟩ := r
    exact ⟨a, vs, by rw [ev'], hq.sq, hF.ret _ (s1.less o) ev wd (walkK_rev hq rr)⟩⟩
end

/-! ### comprehensions -/
/-- within a block no exception is borne -/
abbrev Ctx.nx (C : Ctx) : Ctx := { C with W := fun _ _ _ _ => False }
/-- the context of a block -/
abbrev Ctx.blk (C : Ctx) (s : Shared) (H : Hp) (scope : Scope) (cenv : PySem.Env) (fp : List Addr) : Ctx := { C with X := C.X.blk s H scope cenv fp, W := fun _ _ _ _ => False }
section
variable {C : Ctx}
theorem Pre.nx {s : Sx} {ρ : Env} {σ : L2.St} {own : Nat → List Addr} {μ : Sto} (p : Pre C s ρ σ own μ) : Pre C.nx s ρ σ own μ := ⟨p.r, p.wd, p.ev, p.fr⟩
theorem Pre.unnx {s : Sx} {ρ : Env} {σ : L2.St} {own : Nat → List Addr} {μ : Sto} (p : Pre C.nx s ρ σ own μ) : Pre C s ρ σ own μ := ⟨p.r, p.wd, p.ev, p.fr⟩
theorem Frs.unnx {s : Sx} {own : Nat → List Addr} {o : List Addr} (p : Frs C.nx s own o) : Frs C s own o := ⟨p.nd, p.ow, p.ap⟩
/-- readings of a block, the same for every block -/
theorem blkE {s : Shared} {H : Hp} {scope : Scope} {cenv : PySem.Env} {fp : List Addr} {e : Expr} {f : Env → M D} (h : OkE (C.blk s H scope cenv fp) e f) : PE (C.X.blk s H scope cenv fp) e (tD C.nx f) :=
  PE_imp h fun σ H Q ⟨s, ρ, own, μ, e1, p, q⟩ => ⟨s, ρ, own, μ, e1, ⟨p.r, p.wd, p.ev, p.fr⟩, q⟩
theorem blkT {s : Shared} {H : Hp} {scope : Scope} {cenv : PySem.Env} {fp : List Addr} {e : Expr} {f : Env → M Bool} (h : OkT (C.blk s H scope cenv fp) e f) : PT (C.X.blk s H scope cenv fp) e (tDT C.nx f) :=
  PT_imp h fun σ H Q ⟨s, ρ, own, μ, e1, p, q⟩ => ⟨s, ρ, own, μ, e1, ⟨p.r, p.wd, p.ev, p.fr⟩, q⟩
theorem blkG {s : Shared} {H : Hp} {scope : Scope} {cenv : PySem.Env} {fp : List Addr} {e : Expr} {t : T} (h : OkG (C.blk s H scope cenv fp) e t) : PG (C.X.blk s H scope cenv fp) e (tG C.nx t) :=
  PG_imp h fun v σ H Q ⟨s, ρ, own, μ, d, o, ρ', e1, p, r, f, ea, k⟩ => ⟨s, ρ, own, μ, d, o, ρ', e1, ⟨p.r, p.wd, p.ev, p.fr⟩, r, ⟨f.nd, f.ow, f.ap⟩, ea, fun σ' own' p' oi so => k σ' own' ⟨p'.r, p'.wd, p'.ev, p'.fr⟩ oi so⟩
theorem blkI {s : Shared} {H : Hp} {scope : Scope} {cenv : PySem.Env} {fp : List Addr} {tg e : Expr} {f : Env → M (List D)} (h : OkI (C.blk s H scope cenv fp) tg e f) : PI (C.X.blk s H scope cenv fp) tg e (tI C.nx f) :=
  PI_imp h fun σ H Q ⟨s, ρ, own, μ, e1, p, q⟩ => ⟨s, ρ, own, μ, e1, ⟨p.r, p.wd, p.ev, p.fr⟩, q⟩
def OkTs (C : Ctx) (es : List Expr) (f : Env → M Bool) : Prop := PTs C.X es (tDT C f)
theorem PTs_imp {X : Cx} {e : List Expr} {t t' : TT} (h : PTs X e t) (i : ∀ σ H Q, t' σ H Q → t σ H Q) : PTs X e t' := ⟨fun pins s σ H Q I q => h.run pins s σ H Q I (i σ H Q q)⟩
theorem ok_tsnil : OkTs C [] (fun _ => M.ret true) := PTs_imp pts_nil fun σ H Q ⟨s, ρ, own, μ, e1, p, q⟩ => by
  show Q true H
  rw [← e1]
  exact q.ret s (Ev.refl s) p.wd
theorem ok_tsone {c : Expr} {f : Env → M Bool} (h : OkT C c f) : OkTs C [c] f := pts_one h
theorem blkTs {s : Shared} {H : Hp} {scope : Scope} {cenv : PySem.Env} {fp : List Addr} {e : List Expr} {f : Env → M Bool} (h : OkTs (C.blk s H scope cenv fp) e f) : PTs (C.X.blk s H scope cenv fp) e (tDT C.nx f) :=
  PTs_imp h fun σ H Q ⟨s, ρ, own, μ, e1, p, q⟩ => ⟨s, ρ, own, μ, e1, ⟨p.r, p.wd, p.ev, p.fr⟩, q⟩
end
/-! the list that is being made -/
structure Acc (C : Ctx) (s1 s : Sx) (Dd : Addr) (acc : List D) : Prop where
  ev : Ev s1 s
  oD : s.O Dd
  nD : Dd ∉ s.ι
  h1 : s1.H Dd = none
  rep : ∃ accV o, s.H Dd = some (.lst accV) ∧ RepL C.K C.w s acc accV o ∧ (Dd :: o).Nodup ∧ ∀ a ∈ o, s.O a ∧ ¬ s1.O a ∧ a ∉ s.ι
section
variable {C : Ctx} {s1 s s' : Sx} {own : Nat → List Addr} {Dd : Addr} {acc : List D} {μ μ' : Sto} {ρ ρ1 : Env} {σ σ1 : L2.St}
theorem Acc.step (a : Acc C s1 s Dd acc) (e : Ev s s') (W : Wd C.K C.w s μ) : Acc C s1 s' Dd acc := by
  obtain ⟨accV, o, hD, r, nd, ow⟩ := a.rep
  refine ⟨a.ev.trans e, e.up _ a.oD, e.noIn (by rw [hD]; simp) a.nD, a.h1, accV, o, e.ext _ _ hD a.nD, e.repLo W r fun b hb => ⟨(ow b hb).1, (ow b hb).2.2⟩, nd, fun b hb => ?_⟩
  have := e.ownS W (o := o) (fun b hb => ⟨(ow b hb).1, (ow b hb).2.2⟩) b hb
  exact ⟨this.1, (ow b hb).2.1, this.2⟩
theorem Acc.start (p : Pre C s1 ρ σ own μ) (h : s1.H Dd = none) : Acc C s1 (s1.own Dd (.lst [])) Dd [] ∧ Pre C (s1.own Dd (.lst [])) ρ σ own μ := by
  have e := Ev.ownN (s := s1) (u := .lst []) h
  have W := p.wd.ownN h (u := .lst []) trivial
  refine ⟨⟨e, .inr rfl, fun z => mut_ne (p.wd.mt Dd (p.wd.sub Dd z)) h, h, [], [], upd_same, ⟨rfl, rfl⟩, by simp, (fun _ z => nomatch z)⟩, p.step e W⟩
/-- one more item -/
theorem Acc.app (a : Acc C s1 s Dd acc) (W : Wd C.K C.w s μ) {y : D} {v : V} {o' : List Addr} (po : Post C.K C.w s s' μ' y v o') :
    ∃ accV, s'.H Dd = some (.lst accV) ∧ acc.length = accV.length ∧ Acc C s1 (s'.put Dd (.lst (accV ++ [v]))) Dd (acc ++ [y]) := by
  have oD := po.ev.up _ a.oD
  obtain ⟨accV, o, hD, r, nd, ow⟩ := a.rep
  have nD : Dd ∉ s'.ι := po.ev.noIn (by rw [hD]; simp) a.nD
  have nd2 := List.nodup_cons.mp nd
  have hDo' : Dd ∉ o' := fun z => (po.ow Dd z).2.1 a.oD
  have keep : ∀ b, b ≠ Dd → (s'.put Dd (.lst (accV ++ [v]))).H b = s'.H b := fun b e => upd_ne e
  have kp := Kp.put (u := .lst (accV ++ [v])) po.wd oD
  have et := a.ev.trans po.ev
  refine ⟨accV, po.ev.ext _ _ hD a.nD, r.len, ?_, oD, nD, a.h1, accV ++ [v], o ++ o', upd_same, ?_, ?_, fun b hb => ?_⟩
  · exact ⟨fun b x h n => (keep b fun e => by rw [e, a.h1] at h; cases h).trans (et.ext b x h n), et.pre, et.up, et.dn, fun b h => by
      by_cases e : b = Dd
      · rw [e]; exact a.h1
      · rw [keep b e] at h; exact et.live b h⟩
  · have r1 := RepL.keep kp _ _ _ (po.ev.repLo W r fun b hb => ⟨(ow b hb).1, (ow b hb).2.2⟩) fun b hb => keep b fun e => nd2.1 (by rw [← e]; exact hb)
    have r2 := Rep.keep kp _ _ _ po.rep fun b hb => keep b fun e => hDo' (by rw [← e]; exact hb)
    exact RepL.append r1 ⟨v, [], o', [], rfl, by simp, r2, rfl, rfl⟩
  · exact List.nodup_cons.mpr ⟨fun z => (List.mem_append.mp z).elim nd2.1 hDo', List.nodup_append.mpr ⟨nd2.2, po.nd, fun b hb c hc e => (po.ow c hc).2.1 (by rw [← e]; exact (ow b hb).1)⟩⟩
  · rcases List.mem_append.mp hb with hb | hb
    · have := po.ev.ownS W (o := o) (fun b hb => ⟨(ow b hb).1, (ow b hb).2.2⟩) b hb
      exact ⟨this.1, (ow b hb).2.1, this.2⟩
    · exact ⟨(po.ow b hb).1, fun z => (po.ow b hb).2.1 (a.ev.up b z), (po.ow b hb).2.2⟩
end
/-- a loop's turns -/
theorem loop_it {J : It} {n : Nat} {G : Hp → Prop} {Y : Nat → Hp → V → Hp → Prop} (w : Walk J n G Y) (Body : (Hp → Prop) → V → Hp → Prop) {H0 : Hp} {Qd : Hp → Prop} (Pv : Nat → Hp → Prop) (h0 : Pv 0 H0) (hG : ∀ i H, i ≤ n → Pv i H → G H)
    (hs : ∀ i x H H', i < n → Pv i H → Y i H x H' → Body (Pv (i + 1)) x H') (hd : ∀ H, Pv n H → Qd H) :
    ∃ W : Nat → Nat → Hp → Prop, (∃ m, W 0 m H0) ∧ ∀ i m H, W i m H →
      (J.stop i H ∧ Qd H) ∨ (J.go i H ∧ ∃ Nx : Hp → Prop, (∀ H', Nx H' → ∃ m', m' < m ∧ W (i + 1) m' H') ∧ ∀ x H', J.yld i H x H' → Body Nx x H') := by
  refine ⟨fun i m H => m = n - i ∧ i ≤ n ∧ Pv i H, ⟨n, by simp, Nat.zero_le _, h0⟩, ?_⟩
  rintro i m H ⟨rfl, hi, p⟩
  have q := hG i H hi p
  by_cases hlt : i < n
  · refine .inr ⟨w.goes i H hlt q, Pv (i + 1), fun H' p' => ⟨n - (i + 1), by omega, rfl, hlt, p'⟩, fun x H' y => hs i x H H' hlt p (w.yields i H x H' hlt q y)⟩
  · have e : i = n := by omega
    subst e
    exact .inl ⟨w.stops H q, hd H p⟩
def turnK (t : T) (fc : Env → M Bool) (fe : Env → M D) (ρ : Env) : D → M (Option D) := fun x => match asg t x (Vf.wipe ρ t.ix) with
      | some ρ' => M.bind (fc ρ') fun | true => M.bind (fe ρ') fun y => M.ret (some y) | false => M.ret none
      | none => M.bad
/-- what a turn is to reach -/
def BodyL (C : Ctx) (t : T) (fc : Env → M Bool) (fe : Env → M D) (σ : L2.St) (Dd : Addr) : (Hp → Prop) → V → Hp → Prop := fun Nx x H' =>
  tG C.nx t x (L2.wipe σ t.ix) H' fun σ2 H2 => L2.wipe σ2 t.ix = L2.wipe σ t.ix ∧ tDT C.nx fc σ2 H2 fun b H3 =>
    if b = true then tD C.nx fe σ2 H3 fun y H4 => ∃ acc, H4 Dd = some (.lst acc) ∧ acc.length < sizeLine ∧ Nx (upd H4 Dd (.lst (acc ++ [y]))) else Nx H3
theorem WalkK.mono {K : PySem.W.Frag} {w : World} {s s' : Sx} {xs : List D} {J : It} (h : WalkK K w s xs J) (g : Go s s') : WalkK K w s' xs J := by
  obtain ⟨G, Y, a, b, c⟩ := h
  exact ⟨G, Y, a, fun s2 g2 => b s2 (g.trans g2), fun i s2 μ x H' hi g2 => c i s2 μ x H' hi (g.trans g2)⟩
section
variable {C : Ctx} {s1 sA : Sx} {own ownx : Nat → List Addr} {Dd : Addr} {accA ys xs : List D} {μA μF : Sto} {ρ ρx : Env} {σ σx : L2.St} {t : T} {fc : Env → M Bool} {fe : Env → M D} {J : It} {Qd : Hp → Prop}
theorem turns (hp : Pre C.nx sA ρ σ own μA) (hx : Pre C.nx sA ρx σx ownx μA) (hd : ∀ j, Dd ∉ own j) (hdx : ∀ j, Dd ∉ ownx j) (ha : Acc C s1 sA Dd accA) (h0 : C.s0.H Dd = none) (wk : WalkK C.K C.w sA xs J)
    (he : mapC (turnK t fc fe ρ) xs accA μA = .ok ys μF) (hF : ∀ s', Go sA s' → Pre C.nx s' ρ σ own μF → Pre C.nx s' ρx σx ownx μF → Acc C s1 s' Dd ys → Qd s'.H) :
    ∃ W : Nat → Nat → Hp → Prop, (∃ m, W 0 m sA.H) ∧ ∀ i m H, W i m H →
      (J.stop i H ∧ Qd H) ∨ (J.go i H ∧ ∃ Nx : Hp → Prop, (∀ H', Nx H' → ∃ m', m' < m ∧ W (i + 1) m' H') ∧ ∀ x H', J.yld i H x H' → BodyL C t fc fe σ Dd Nx x H') := by
  obtain ⟨G, Y, wlk, hG, hY⟩ := wk
  refine loop_it wlk (BodyL C t fc fe σ Dd) (fun i H => ∃ si μi acc, si.H = H ∧ Go sA si ∧ Pre C.nx si ρ σ own μi ∧ Pre C.nx si ρx σx ownx μi ∧ Acc C s1 si Dd acc ∧ mapC (turnK t fc fe ρ) (xs.drop i) acc μi = .ok ys μF)
    ⟨sA, μA, accA, rfl, Go.refl hp.wd, hp, hx, ha, by simpa using he⟩ (fun i H _ ⟨si, μi, acc, e, g, _⟩ => e ▸ hG si g) (fun i x H H' hi ⟨si, μi, acc, eH, g, p, px, a, em⟩ y => ?_) (fun H ⟨si, μi, acc, eH, g, p, px, a, em⟩ => ?_)
  · subst eH
    obtain ⟨s3, d, eH', ev3, wd3, hxi, r⟩ := hY i si μi x H' hi g p.wd y
    have edrop : xs.drop i = d :: xs.drop (i + 1) := by
      have e2 : xs[i] = d := by rw [List.getElem?_eq_getElem hi] at hxi; exact Option.some.inj hxi
      rw [List.drop_eq_getElem_cons hi, e2]
    rw [edrop] at em
    obtain ⟨ro, μ1, em1, em2⟩ := bind_ok (show M.bind (turnK t fc fe ρ d) _ μi = .ok ys μF from em)
    unfold turnK at em1
    cases ea : asg t d (Vf.wipe ρ t.ix) with
    | none => rw [ea] at em1; cases em1
    | some ρ' =>
      rw [ea] at em1
      obtain ⟨b, μ2, ec, em3⟩ := bind_ok em1
      refine ⟨s3, Vf.wipe ρ t.ix, own, μi, d, [], ρ', eH', (p.step ev3 wd3).wipe t.ix, r, Frs.nil, ea, fun σ2 own2 p2 _ so => ⟨(so.wipe fun i h => h).trans wipe_wipe, s3, ρ', own2, μi, rfl, p2, ?_⟩⟩
      rw [ec]
      intro s4 ev4 wd4
      have e34 := ev3.trans ev4
      cases b with
      | false =>
        rw [if_neg Bool.false_ne_true]
        cases em3
        exact ⟨s4, μ1, acc, rfl, g.trans (e34.go p.wd), p.step e34 wd4, px.step e34 wd4, a.step e34 p.wd, em2⟩
      | true =>
        rw [if_pos rfl]
        obtain ⟨y', μ3, ee, em4⟩ := bind_ok em3
        cases em4
        refine ⟨s4, ρ', own2, μ2, rfl, p2.step ev4 wd4, ?_⟩
        rw [ee]
        intro v s5 o' po
        have a4 := a.step e34 p.wd
        obtain ⟨accV, hD, hl, a6⟩ := a4.app wd4 po
        have em5 : guard' (decide (acc.length < LINE)) (mapC (turnK t fc fe ρ) (xs.drop (i + 1)) (acc ++ [y'])) μ1 = .ok ys μF := em2
        cases hg : decide (acc.length < LINE) with
        | false => rw [hg] at em5; cases em5
        | true =>
          rw [hg] at em5
          have e35 := e34.trans po.ev
          have p5 := p.step e35 po.wd
          have px5 := px.step e35 po.wd
          have oD5 := po.ev.up _ a4.oD
          have nD5 : Dd ∉ s5.ι := a6.nD
          refine ⟨accV, hD, by rw [← line_eq, ← hl]; exact of_decide_eq_true hg, s5.put Dd (.lst (accV ++ [v])), μ1, acc ++ [y'], rfl, (g.trans (e35.go p.wd)).trans (Go.put po.wd oD5), p5.put (u := .lst (accV ++ [v])) oD5 nD5 h0 hd trivial, px5.put (u := .lst (accV ++ [v])) oD5 nD5 h0 hdx trivial, a6, em5⟩
  · subst eH
    have en : xs.drop xs.length = [] := by simp
    rw [en] at em
    cases em
    exact hF si g p px a
end
theorem nox_ok {α β : Type} {C : Ctx} {σ : L2.St} {m : M α} {k : α → M β} {μ : Sto} {F : β → Sto → Prop} (h : ResG C σ (M.bind (nox m) k μ) F) : ∃ a μ', m μ = .ok a μ' ∧ ResG C σ (k a μ') F := by
  unfold M.bind nox at h
  cases e : m μ with
  | ok a μ' => rw [e] at h; exact ⟨a, μ', rfl, h⟩
  | exc c fs μ' => rw [e] at h; exact h.elim
  | bad => rw [e] at h; exact h.elim
theorem own_ne {C : Ctx} {s : Sx} {ρ : Env} {σ : L2.St} {own : Nat → List Addr} {μ : Sto} (p : Pre C s ρ σ own μ) {Dd : Addr} (h : s.H Dd = none) : ∀ j, Dd ∉ own j := fun j z => mut_ne (p.wd.mt Dd (p.r.ow j Dd z).1) h
theorem Acc.post {C : Ctx} {s1 s : Sx} {Dd : Addr} {ys : List D} {μ : Sto} (a : Acc C s1 s Dd ys) (W : Wd C.K C.w s μ) (W1 : ∀ b, s1.O b → Mut (s1.H b)) : ∃ o, Post C.K C.w s1 s μ (.lst true ys) (.ref Dd) o := by
  obtain ⟨accV, o, hD, r, nd, ow⟩ := a.rep
  refine ⟨Dd :: o, a.ev, W, ⟨Dd, accV, o, rfl, hD, rfl, r⟩, nd, fun b hb => ?_⟩
  rcases List.mem_cons.mp hb with e | hb
  · rw [e]; exact ⟨a.oD, fun z => mut_ne (W1 Dd z) a.h1, a.nD⟩
  · exact ow b hb
def lcK (fi : Env → M (List D)) (t : T) (fc : Env → M Bool) (fe : Env → M D) : Env → M D := fun ρ => M.bind (fi ρ) fun xs => M.bind (nox (mapC (turnK t fc fe ρ) xs [])) fun ys => M.ret (.lst true ys)
theorem rd_lc {C : Ctx} {fi : Env → M (List D)} {t : T} {fc : Env → M Bool} {fe : Env → M D} {σ : L2.St} {H : Hp} {Q : VK} (h : tD C (lcK fi t fc fe) σ H Q) : tLc (tI C fi) (tG C.nx t) (tDT C.nx fc) (tD C.nx fe) t.ix σ H Q := by
  obtain ⟨s, ρ, own, μ, e1, p, q⟩ := h
  refine ⟨s, ρ, own, μ, e1, p, q.bind.mono fun xs μ1 h1 J s1 ev wd wk Dd hD => ?_⟩
  obtain ⟨ys, μF, em, hF⟩ := nox_ok h1
  have p1 := p.step ev wd
  obtain ⟨a0, p0⟩ := Acc.start p1 hD
  refine turns (C := C) (Qd := fun H => Q (.ref Dd) H) p0.nx p0.nx (own_ne p1 hD) (own_ne p1 hD) a0 (p1.ev.live Dd hD) (wk.mono (a0.ev.go p1.wd)) em fun s' g p' _ a => ?_
  obtain ⟨o, po⟩ := a.post p'.wd p1.wd.mt
  exact hF.ret (.ref Dd) s' o (po.tr ev)
def lc2K (fi : Env → M (List D)) (t : T) (fi2 : Env → M (List D)) (t2 : T) (fc : Env → M Bool) (fe : Env → M D) : Env → M D := fun ρ => M.bind (fi ρ) fun xs => M.bind (nox (foldC (fun x acc => match asg t x (Vf.wipe ρ (t.ix ++ t2.ix)) with
      | some ρ1 => M.bind (fi2 ρ1) fun ys => mapC (turnK t2 fc fe ρ1) ys acc
      | none => M.bad) xs [])) fun ys => M.ret (.lst true ys)
theorem rd_lc2 {C : Ctx} {fi fi2 : Env → M (List D)} {t t2 : T} {fc : Env → M Bool} {fe : Env → M D} {σ : L2.St} {H : Hp} {Q : VK} (h : tD C (lc2K fi t fi2 t2 fc fe) σ H Q) :
    tLc2 (tI C fi) (tG C.nx t) (tDT C.nx fun _ => M.ret true) (tI C.nx fi2) (tG C.nx t2) (tDT C.nx fc) (tD C.nx fe) (t.ix ++ t2.ix) t2.ix σ H Q := by
  obtain ⟨s, ρ, own, μ, e1, p, q⟩ := h
  refine ⟨s, ρ, own, μ, e1, p, q.bind.mono fun xs μ1 h1 J s1 ev wd wk Dd hD => ?_⟩
  obtain ⟨ys, μF, em, hF⟩ := nox_ok h1
  have p1 := p.step ev wd
  have h0 := p1.ev.live Dd hD
  obtain ⟨a0, p0⟩ := Acc.start p1 hD
  have wk := wk.mono (a0.ev.go p1.wd)
  obtain ⟨G, Y, wlk, hG, hY⟩ := wk
  refine loop_it wlk (fun Nx x H' => tG C.nx t x (L2.wipe σ (t.ix ++ t2.ix)) H' fun σ2 H2 => L2.wipe σ2 (t.ix ++ t2.ix) = L2.wipe σ (t.ix ++ t2.ix) ∧ tDT C.nx (fun _ => M.ret true) σ2 H2 fun b H3 =>
    if b = true then tI C.nx fi2 σ2 H3 fun J1 H4 => ∃ W1 : Nat → Nat → Hp → Prop, (∃ m, W1 0 m H4) ∧ ∀ j k H, W1 j k H →
      (J1.stop j H ∧ Nx H) ∨ (J1.go j H ∧ ∃ Nx1 : Hp → Prop, (∀ H', Nx1 H' → ∃ k', k' < k ∧ W1 (j + 1) k' H') ∧ ∀ x H', J1.yld j H x H' → BodyL C t2 fc fe σ2 Dd Nx1 x H')
    else Nx H3)
    (fun i H => ∃ si μi acc, si.H = H ∧ Go (s1.own Dd (.lst [])) si ∧ Pre C.nx si ρ σ own μi ∧ Acc C s1 si Dd acc ∧ foldC (fun x acc => match asg t x (Vf.wipe ρ (t.ix ++ t2.ix)) with
      | some ρ1 => M.bind (fi2 ρ1) fun ys => mapC (turnK t2 fc fe ρ1) ys acc
      | none => M.bad) (xs.drop i) acc μi = .ok ys μF)
    ⟨s1.own Dd (.lst []), μ1, [], rfl, Go.refl p0.wd, p0.nx, a0, by simpa using em⟩ (fun i H _ ⟨si, μi, acc, e, g, _⟩ => e ▸ hG si g) (fun i x H H' hi ⟨si, μi, acc, eH, g, p, a, em⟩ y => ?_) (fun H ⟨si, μi, acc, eH, g, p, a, em⟩ => ?_)
  · subst eH
    obtain ⟨s3, d, eH', ev3, wd3, hxi, r⟩ := hY i si μi x H' hi g p.wd y
    have edrop : xs.drop i = d :: xs.drop (i + 1) := by
      have e2 : xs[i] = d := by rw [List.getElem?_eq_getElem hi] at hxi; exact Option.some.inj hxi
      rw [List.drop_eq_getElem_cons hi, e2]
    rw [edrop] at em
    obtain ⟨acc', μ2, em1, em2⟩ := bind_ok em
    dsimp only at em1
    cases ea : asg t d (Vf.wipe ρ (t.ix ++ t2.ix)) with
    | none => rw [ea] at em1; cases em1
    | some ρ1 =>
      rw [ea] at em1
      obtain ⟨zs, μ3, ei, em3⟩ := bind_ok em1
      refine ⟨s3, Vf.wipe ρ (t.ix ++ t2.ix), own, μi, d, [], ρ1, eH', (p.step ev3 wd3).wipe _, r, Frs.nil, ea, fun σ2 own2 p2 oi so => ⟨(so.wipe fun i h => List.mem_append_left _ h).trans wipe_wipe, s3, ρ1, own2, μi, rfl, p2, fun s4 ev4 wd4 => ?_⟩⟩
      dsimp only
      rw [if_pos rfl]
      refine ⟨s4, ρ1, own2, μi, rfl, p2.step ev4 wd4, ?_⟩
      rw [ei]
      intro J1 s5 ev5 wd5 wk5
      have e35 := ev3.trans (ev4.trans ev5)
      have hd2 : ∀ j, Dd ∉ own2 j := fun j z => by
        rcases oi j Dd z with ⟨k, z⟩ | z
        · exact own_ne p1 hD k z
        · cases z
      exact turns (C := C) (p2.step (ev4.trans ev5) wd5) (p.step e35 wd5) hd2 (own_ne p1 hD) (a.step e35 p.wd) h0 wk5 em3 fun s6 g6 p6 px6 a6 =>
        ⟨s6, μ2, acc', rfl, (g.trans (e35.go p.wd)).trans g6, px6, a6, em2⟩
  · subst eH
    have en : xs.drop xs.length = [] := by simp
    rw [en] at em
    cases em
    obtain ⟨o, po⟩ := a.post p.wd p1.wd.mt
    exact hF.ret (.ref Dd) si o (po.tr ev)
/-! as expressions -/
section
variable {C : Ctx} {elt tg iter tg1 iter1 : Expr} {ifs : List Expr} {scope : Scope} {own : List (Str × Nat)} {pos : Pos} {fi fi2 : Env → M (List D)} {t t2 : T} {fc : Env → M Bool} {fe : Env → M D}
theorem ok_lc (hc : C.X.calm = true) (hN : C.X.N.Nodup) (hi : OkI C tg iter fi) (ok : BlkOk C.X.N C.X.env.scope scope own) (ho : own.map (·.2) = t.ix)
    (hg : ∀ s H a cl fp, OkG (C.blk s H scope (compEnvC scope cl a C.X.env) fp) tg t) (ht : ∀ s H a cl fp, OkTs (C.blk s H scope (compEnvC scope cl a C.X.env) fp) ifs fc)
    (he : ∀ s H a cl fp, OkE (C.blk s H scope (compEnvC scope cl a C.X.env) fp) elt fe) (hs : notSetI iter = true) : OkE C (.ListComp elt [⟨tg, iter, ifs, 0⟩] scope pos) (lcK fi t fc fe) :=
  PE_imp (pe_lc hc hN hi ok (fun s H a cl fp => blkG (hg s H a cl fp)) (fun s H a cl fp => blkTs (ht s H a cl fp)) (fun s H a cl fp => blkE (he s H a cl fp)) (notSetI_ok hs _)) fun σ H Q q => by rw [ho]; exact rd_lc q
theorem ok_lc2 (hc : C.X.calm = true) (hN : C.X.N.Nodup) (hi : OkI C tg iter fi) (ok : BlkOk C.X.N C.X.env.scope scope own) (ho : own.map (·.2) = t.ix ++ t2.ix)
    (hg : ∀ s H a cl fp, OkG (C.blk s H scope (compEnvC scope cl a C.X.env) fp) tg t) (hi1 : ∀ s H a cl fp, OkI (C.blk s H scope (compEnvC scope cl a C.X.env) fp) tg1 iter1 fi2)
    (hg1 : ∀ s H a cl fp, OkG (C.blk s H scope (compEnvC scope cl a C.X.env) fp) tg1 t2) (ht : ∀ s H a cl fp, OkTs (C.blk s H scope (compEnvC scope cl a C.X.env) fp) ifs fc)
    (he : ∀ s H a cl fp, OkE (C.blk s H scope (compEnvC scope cl a C.X.env) fp) elt fe) (hs : notSetI iter = true) (hs1 : notSetI iter1 = true) : OkE C (.ListComp elt [⟨tg, iter, [], 0⟩, ⟨tg1, iter1, ifs, 0⟩] scope pos) (lc2K fi t fi2 t2 fc fe) :=
  PE_imp (pe_lc2 (vs1 := t2.ix) hc hN hi ok (fun i h => by rw [ho]; exact List.mem_append_right _ h) (fun s H a cl fp => blkG (hg s H a cl fp)) (fun s H a cl fp => blkTs ok_tsnil) (fun s H a cl fp => blkI (hi1 s H a cl fp)) (fun s H a cl fp => blkG (hg1 s H a cl fp)) (fun s H a cl fp => blkTs (ht s H a cl fp)) (fun s H a cl fp => blkE (he s H a cl fp)) (notSetI_ok hs _) (fun env => notSetI_ok hs1 env)) fun σ H Q q => by rw [ho]; exact rd_lc2 q
end
end Vf

/-! VZ -/
set_option autoImplicit false
set_option linter.all false
set_option Elab.async false
set_option maxHeartbeats 1000000
/-! VZ: zip over lists, tuples, texts; list(enumerate(..)). -/
namespace Vf
open PySem PySem.Spec PyProof.Rows L2
/-! ### sources -/
inductive Src where
  | lst (a : Addr) | tup (a : Addr) | str (x : Str)
def Src.val : Src → V
  | .lst a => .ref a
  | .tup a => .ref a
  | .str x => .str x
def Src.At (K : PySem.W.Frag) (H : Hp) : Src → List V → Prop
  | .lst a, xs => SqL K H a xs
  | .tup a, xs => SqT K H a xs
  | .str x, xs => xs = x.cps.toList.map fun c => V.str ⟨#[c]⟩
def Src.out (b : Addr) : Src → Prop
  | .lst a => a ≠ b
  | .tup a => a ≠ b
  | .str _ => True
def Src.iter (h : Heap) (it : Addr) (i : Nat) : Src → Prop
  | .lst a => h.IsListIter it a i
  | .tup a => h.IsTupleIter it a i
  | .str x => ∃ t, h.IsStrIter it (strIterType x) x t i
theorem Src.obj {h : Heap} {it : Addr} {i : Nat} {S : Src} (hi : S.iter h it i) : ∃ o, h.get? it = some o ∧ ∀ v, o.data ≠ .cell v := by
  cases S with
  | lst a => obtain ⟨o, e, _, d⟩ := hi; exact ⟨o, e, fun v q => by rw [d] at q; cases q⟩
  | tup a => obtain ⟨o, e, _, d⟩ := hi; exact ⟨o, e, fun v q => by rw [d] at q; cases q⟩
  | str x => obtain ⟨t, o, e, _, d⟩ := hi; exact ⟨o, e, fun v q => by rw [d] at q; cases q⟩
theorem Src.keep {h h' : Heap} {it : Addr} {i : Nat} {S : Src} (hi : S.iter h it i) (k : ∀ o, h.get? it = some o → h'.get? it = some o) : S.iter h' it i := by
  cases S with
  | lst a => exact (show h.IsListIter it a i from hi).at k
  | tup a => exact (show h.IsTupleIter it a i from hi).at k
  | str x => obtain ⟨t, o, e, r⟩ := hi; exact ⟨t, o, k o e, r⟩
theorem Src.inj {X : Cx} {pins : List (Addr × Obj)} {σ : L2.St} {H : Hp} {s : Shared} (I : Inv X pins σ H s) {S : Src} {xs ys : List V} (h : S.At X.K H xs) (h' : S.At X.K H ys) : xs = ys := by
  cases S with
  | lst a => exact I.list_inj h h'
  | tup a => exact I.tuple_inj h h'
  | str x => exact (show xs = _ from h).trans (show ys = _ from h').symm
/-- what it draws -/
theorem Src.draws {X : Cx} {pins : List (Addr × Obj)} {σ : L2.St} {H : Hp} {s : Shared} (I : Inv X pins σ H s) (hc : X.calm = true) {S : Src} {xs : List V} {it : Addr} {i : Nat} (h : S.At X.K H xs) (hi : S.iter s.heap it i) (ho : S.out it) :
    ∃ (fp : List Addr) (P : Nat → Value → Prop) (St : Nat → Heap → Prop), Draws X.prog X.w X.A.in1 it fp xs.length P St ∧ St i s.heap ∧ it ∈ fp ∧ (∀ b, b ≠ it → S.out b → b ∉ fp) ∧ (∀ v x, P i v → xs[i]? = some x → RelV x v) ∧ ∀ h', St (i + 1) h' → S.iter h' it (i + 1) := by
  have hh : X.A.in1.handled = none := I.ok.hd hc
  cases S with
  | lst a =>
    obtain ⟨its, r, p, hz⟩ := I.list h
    have hl := r.length
    refine ⟨[it, a], fun i v => its.toArray[i]? = some v, fun i h => h.IsListIter it a i ∧ h.IsList a its.toArray, by have D := Draws.list (prog := X.prog) (w := X.w) hh it a ho its.toArray; rw [List.size_toArray, ← hl] at D; exact D, ⟨hi, p.isList⟩, by simp, fun b h1 h2 h3 => ?_, fun v x hv hx => ?_, fun h' z => z.1⟩
    · rcases List.mem_cons.mp h3 with z | z
      · exact h1 z
      · exact h2 (by simpa using z : b = a).symm
    · obtain ⟨u, hu, ru⟩ := r.get hx
      have e : its[i]? = some v := by simpa using hv
      rw [hu] at e; cases e; exact ru
  | tup a =>
    obtain ⟨its, r, p, hz⟩ := I.tuple h
    have hl := r.length
    refine ⟨[it, a], fun i v => its.toArray[i]? = some v, fun i h => h.IsTupleIter it a i ∧ h.IsTuple a its.toArray, by have D := Draws.tuple (prog := X.prog) (w := X.w) hh it a ho its.toArray; rw [List.size_toArray, ← hl] at D; exact D, ⟨hi, p⟩, by simp, fun b h1 h2 h3 => ?_, fun v x hv hx => ?_, fun h' z => z.1⟩
    · rcases List.mem_cons.mp h3 with z | z
      · exact h1 z
      · exact h2 (by simpa using z : b = a).symm
    · obtain ⟨u, hu, ru⟩ := r.get hx
      have e : its[i]? = some v := by simpa using hv
      rw [hu] at e; cases e; exact ru
  | str x =>
    obtain ⟨t, hi⟩ := hi
    have h : xs = x.cps.toList.map fun c => V.str ⟨#[c]⟩ := h
    refine ⟨[it], fun i v => ∃ c u, x.cps[i]? = some c ∧ v = .str ⟨#[c]⟩ u, fun i h => h.IsStrIter it (strIterType x) x t i, by have D := Draws.text (prog := X.prog) (w := X.w) hh it x t; rw [h, List.length_map, Array.length_toList]; exact D, hi, by simp, fun b h1 h2 h3 => h1 (by simpa using h3), fun v y hv hx => ?_, fun h' z => ⟨t, z⟩⟩
    obtain ⟨c, u, hcx, rfl⟩ := hv
    rw [h, List.getElem?_map, Array.getElem?_toList, hcx] at hx
    cases hx
    exact ⟨u, rfl⟩
/-- how it begins -/
def Src.ob (v : Value) : Src → Obj
  | .lst a => { cls := .type "list_iterator", data := .fields #[.ref a, .int 0 0] }
  | .tup a => { cls := .type "tuple_iterator", data := .fields #[.ref a, .int 0 0] }
  | .str x => { cls := .type (strIterType x), data := .fields #[v, .int 0 0] }
theorem Src.begins {X : Cx} {pins : List (Addr × Obj)} {σ : L2.St} {H : Hp} {s : Shared} (I : Inv X pins σ H s) {S : Src} {xs : List V} {v : Value} (h : S.At X.K H xs) (r : RelV S.val v) :
    ∃ Hh : Heap → Prop, Begins v (S.ob v) Hh ∧ Hh s.heap ∧ (∀ b, s.heap.objs.size ≤ b → S.out b) ∧ ∀ h' it, h'.get? it = some (S.ob v) → S.iter h' it 0 := by
  cases S with
  | lst a =>
    cases r
    obtain ⟨its, r, p, hz⟩ := I.list h
    refine ⟨_, begins_list a its.toArray, p.isList, fun b hb e => ?_, fun h' it e => ⟨_, e, rfl, rfl⟩⟩
    have := p.lt
    rw [e] at this
    exact absurd (Nat.lt_of_lt_of_le this hb) (Nat.lt_irrefl _)
  | tup a =>
    cases r
    obtain ⟨its, r, p, hz⟩ := I.tuple h
    refine ⟨_, begins_tuple a its.toArray, p, fun b hb e => ?_, fun h' it e => ⟨_, e, rfl, rfl⟩⟩
    have := p.lt
    rw [e] at this
    exact absurd (Nat.lt_of_lt_of_le this hb) (Nat.lt_irrefl _)
  | str x =>
    obtain ⟨t, rfl⟩ := (show ∃ t, v = Value.str x t from r)
    exact ⟨_, begins_text x t, trivial, fun b hb => trivial, fun h' it e => ⟨t, _, e, rfl, rfl⟩⟩
/-! ### zip -/
def ItzG (K : PySem.W.Frag) (A B : Src) : It :=
  ⟨fun i H => ∃ (xs ys : List V) (x y : V), A.At K H xs ∧ B.At K H ys ∧ xs[i]? = some x ∧ ys[i]? = some y,
    fun i H v H' => ∃ T x y, v = .ref T ∧ H T = none ∧ H' = upd H T (.tup [x, y]) ∧ (∀ xs, A.At K H xs → xs[i]? = some x) ∧ ∀ ys, B.At K H ys → ys[i]? = some y,
    fun i H => ∃ xs ys : List V, A.At K H xs ∧ B.At K H ys ∧ i = min xs.length ys.length⟩
structure ApartG (z TI TO i1 i2 : Addr) (A B : Src) : Prop where
  TIz : TI ≠ z
  TOz : TO ≠ z
  TITO : TI ≠ TO
  TIi1 : TI ≠ i1
  TIi2 : TI ≠ i2
  zi1 : z ≠ i1
  zi2 : z ≠ i2
  Ti1 : TO ≠ i1
  Ti2 : TO ≠ i2
  i12 : i1 ≠ i2
  A_ : A.out z ∧ A.out TO ∧ A.out i1 ∧ A.out i2
  B_ : B.out z ∧ B.out TO ∧ B.out i1 ∧ B.out i2
theorem turn_zipG {P : Program} {w : World} {K : PySem.W.Frag} {elts : List Expr} {kk : Nat} {tpos : Pos} {A B : Src} {z TI TO i1 i2 : Addr} (D : ApartG z TI TO i1 i2 A B) :
    Turn P w K (.Tuple elts kk tpos) (ItzG K A B) [z, TI, TO, i1, i2] z (fun i h => IsZip h z TI TO .none ∧ IsTupOf2 h TI (.ref i1) (.ref i2) ∧ (∃ x y, IsTupOf2 h TO x y) ∧ A.iter h i1 i ∧ B.iter h i2 i) where
  mem := by simp
  obj := fun i h st c hc => by
    obtain ⟨hz, hTI, ⟨x, y, hTO⟩, h1, h2⟩ := st
    have e' : c = z ∨ c = TI ∨ c = TO ∨ c = i1 ∨ c = i2 := by simpa using hc
    rcases e' with q | q | q | q | q
    · rw [q]; exact ⟨_, hz, fun v q => nomatch q⟩
    · rw [q]; exact ⟨_, hTI, fun v q => nomatch q⟩
    · rw [q]; exact ⟨_, hTO, fun v q => nomatch q⟩
    · rw [q]; exact Src.obj h1
    · rw [q]; exact Src.obj h2
  keep := fun i h h' st k => by
    obtain ⟨hz, hTI, ⟨x, y, hTO⟩, h1, h2⟩ := st
    exact ⟨k z (by simp) _ hz, k TI (by simp) _ hTI, ⟨x, y, k TO (by simp) _ hTO⟩, Src.keep h1 fun o q => k i1 (by simp) o q, Src.keep h2 fun o q => k i2 (by simp) o q⟩
  item := by
    intro X hP hw hK hc i pins s σ H E I hf st hg
    subst hP hw hK
    obtain ⟨hz, hTI, ⟨x0, y0, hTO⟩, h1, h2⟩ := st
    obtain ⟨xs, ys, x, y, hqx, hqy, hx, hy⟩ := hg
    obtain ⟨fp1, P1, St1, D1, st1, m1, f1, r1, n1⟩ := Src.draws I hc hqx h1 D.A_.2.2.1
    obtain ⟨fp2, P2, St2, D2, st2, m2, f2, r2, n2⟩ := Src.draws I hc hqy h2 D.B_.2.2.2
    have hzl : z < s.heap.objs.size := Heap.lt_size hz
    have S : ZipSep2 z TI TO i1 i2 fp1 fp2 := ⟨D.TIz, D.TOz, D.TITO, D.TIi1, m1, f1 z D.zi1 D.A_.1, f1 TO D.Ti1 D.A_.2.1, D.TIi2, m2, f2 z D.zi2 D.B_.1, f2 TO D.Ti2 D.B_.2.1, f2 i1 D.i12 D.B_.2.2.1, f1 i2 (Ne.symm D.i12) D.A_.2.2.2⟩
    refine wpAny_pyNext_zipD2_item S D1 D2 hz hTI hTO st1 st2 (List.getElem?_eq_some_iff.mp hx).1 (List.getElem?_eq_some_iff.mp hy).1 fun u u2 h' tk p1 p2 z' TO' h1' h2' hT hsz hk => ?_
    have ru := r1 u x p1 hx
    have ru2 := r2 u2 y p2 hy
    refine ⟨_, rfl, wpAny_letOwnedTupleGo_zip (s := { s with heap := h', toks := tk }) z' fun h'' z'' sb => ?_⟩
    have hT2 : h''.get? s.heap.objs.size = some { cls := .type "tuple", data := .seq #[u, u2] } := (sb.2 _ (Nat.ne_of_gt hzl)).trans hT
    have new : ObjOk X.prog X.w (upd H s.heap.objs.size (.tup [x, y])) h'' s.heap.objs.size (.tup [x, y]) :=
      ⟨by show 2 ≤ sizeLine; decide, [u, u2], .cons ru (.cons ru2 .nil), ⟨_, hT2, rfl, _, rfl⟩⟩
    have I1 : Inv X pins σ (upd H s.heap.objs.size (.tup [x, y])) { s with heap := h'', toks := tk } :=
      I.turnedNew (t' := tk) (ch := [z, TI, TO, i1, i2]) (fun c o hb q => (sb.2 c (fun q' => hb (by simp [q']))).trans (hk c o (fun q' => hb (by simp [q'])) (fun q' => hb (by simp [q'])) (fun q' => hb (by simp [q'])) (fun q' => hb (by simp [q'])) q)) hf (Nat.le_refl _) new
    refine ⟨.ref s.heap.objs.size, _, I1, rfl, ⟨_, x, y, rfl, I.hok.fresh (Nat.le_refl _), rfl, fun l hl => by rw [Src.inj I hl hqx]; exact hx, fun l hl => by rw [Src.inj I hl hqy]; exact hy⟩, ⟨z'', ?_, ⟨u, u2, ?_⟩, ?_, ?_⟩, fun c hcm => ?_⟩
    · exact (sb.2 _ D.TIz).trans (hk _ _ D.TIz D.TITO D.TIi1 D.TIi2 hTI)
    · exact (sb.2 _ D.TOz).trans TO'
    · exact Src.keep (n1 _ h1') fun o q => (sb.2 _ (Ne.symm D.zi1)).trans q
    · exact Src.keep (n2 _ h2') fun o q => (sb.2 _ (Ne.symm D.zi2)).trans q
    · have hlt : c < s.heap.objs.size := by
        have e' : c = z ∨ c = TI ∨ c = TO ∨ c = i1 ∨ c = i2 := by simpa using hcm
        rcases e' with q | q | q | q | q
        · rw [q]; exact hzl
        · rw [q]; exact Heap.lt_size hTI
        · rw [q]; exact Heap.lt_size hTO
        · rw [q]; obtain ⟨_, e1, _⟩ := Src.obj h1; exact Heap.lt_size e1
        · rw [q]; obtain ⟨_, e2, _⟩ := Src.obj h2; exact Heap.lt_size e2
      rw [upd_ne (Nat.ne_of_lt hlt)]
      exact (hf c hcm).1
  done := by
    intro X hP hw hK hc i pins s σ H E I hf st hg
    subst hP hw hK
    obtain ⟨hz, hTI, ⟨x0, y0, hTO⟩, h1, h2⟩ := st
    obtain ⟨xs, ys, hqx, hqy, hend⟩ := hg
    obtain ⟨fp1, P1, St1, D1, st1, m1, f1, r1, n1⟩ := Src.draws I hc hqx h1 D.A_.2.2.1
    obtain ⟨fp2, P2, St2, D2, st2, m2, f2, r2, n2⟩ := Src.draws I hc hqy h2 D.B_.2.2.2
    have S : ZipSep2 z TI TO i1 i2 fp1 fp2 := ⟨D.TIz, D.TOz, D.TITO, D.TIi1, m1, f1 z D.zi1 D.A_.1, f1 TO D.Ti1 D.A_.2.1, D.TIi2, m2, f2 z D.zi2 D.B_.1, f2 TO D.Ti2 D.B_.2.1, f2 i1 D.i12 D.B_.2.2.1, f1 i2 (Ne.symm D.i12) D.A_.2.2.2⟩
    exact wpAny_pyNext_zipD2_end S D1 D2 hz hTI hTO st1 st2 (by omega) (by omega) (by omega) fun h' tk hk => ⟨rfl, I.turnedL (t' := tk) (ch := [z, TI, TO, i1, i2]) (fun c o hb q =>
      hk c o (fun q' => hb (by simp [q'])) (fun q' => hb (by simp [q'])) (fun q' => hb (by simp [q'])) (fun q' => hb (by simp [q'])) q) hf⟩
  self := fun A i s Q E st h => wpAny_pyIter_zip st.1 h
def iZipG (K : PySem.W.Frag) (ta : TA) : TI := fun σ H R => ta σ H fun vs H1 => ∃ (A B : Src) (xs ys : List V), vs = [A.val, B.val] ∧ A.At K H1 xs ∧ B.At K H1 ys ∧ R (ItzG K A B) H1
theorem sepA (n i j : Nat) (h : i ≠ j) : (n + i : Nat) ≠ n + j := fun e => h (Nat.add_left_cancel e)
theorem pi_zipG {X : Cx} {e e2 : Expr} {ta : TA} {p pos tpos : Pos} {elts : List Expr} {kk : Nat} (hg : Gl X "zip") (hm : X.mg "zip" = none) (ha : PA X [e, e2] ta)
    (hs : starEach [e, e2] X.env = (false, eval e X.env) :: starEach [e2] X.env) (hpl : (backTo pos (starEach [e2] X.env)).any (·.1) = false) :
    PI X (.Tuple elts kk tpos) (.Call (.Name "zip" p) [e, e2] [] pos) (iZipG X.K ta) := by
  refine ⟨fun pins s σ H R I h => ?_⟩
  refine Call_ (ld_blt I hg hm PyProof.Rows.boot_zip (PyProof.Rows.callWith_type1 (thn (ha.run pos pins s σ H _ I h) fun us s1 ⟨vs, H1, I1, r1, q1⟩ => ?_) hs hpl))
  obtain ⟨A, B, xs, ys, ex, hqx, hqy, q⟩ := q1
  subst ex
  cases r1 with
  | cons r rr =>
    cases rr with
    | cons r' rr =>
      cases rr
      obtain ⟨Ha, Ba, ha1, oa, ia⟩ := Src.begins I1 hqx r
      obtain ⟨Hb, Bb, hb1, ob, ib⟩ := Src.begins I1 hqy r'
      refine zip_begins2 Ba Bb ha1 hb1 fun h' hz hTI hTO h1 h2 hsz hk => wpAny_pyIter_zip hz ?_
      have I2 : Inv X pins σ H1 { s1 with heap := h' } := I1.kept (t' := s1.toks) hk
      have D : ApartG (s1.heap.objs.size + 4) (s1.heap.objs.size + 2) (s1.heap.objs.size + 3) s1.heap.objs.size (s1.heap.objs.size + 1) A B :=
        ⟨sepA _ 2 4 (by decide), sepA _ 3 4 (by decide), sepA _ 2 3 (by decide), sepA _ 2 0 (by decide), sepA _ 2 1 (by decide), sepA _ 4 0 (by decide), sepA _ 4 1 (by decide), sepA _ 3 0 (by decide), sepA _ 3 1 (by decide), sepA _ 0 1 (by decide), ⟨oa _ (Nat.le_add_right _ _), oa _ (Nat.le_add_right _ _), oa _ (Nat.le_refl _), oa _ (Nat.le_add_right _ _)⟩, ⟨ob _ (Nat.le_add_right _ _), ob _ (Nat.le_add_right _ _), ob _ (Nat.le_refl _), ob _ (Nat.le_add_right _ _)⟩⟩
      refine ⟨s1.heap.objs.size + 4, [s1.heap.objs.size + 4, s1.heap.objs.size + 2, s1.heap.objs.size + 3, s1.heap.objs.size, s1.heap.objs.size + 1], _, _, H1, rfl, I2, turn_zipG D, ⟨hz, hTI, ⟨_, _, hTO⟩, ia _ _ h1, ib _ _ h2⟩, fun c hcm => ?_, q⟩
      have e' : c = s1.heap.objs.size + 4 ∨ c = s1.heap.objs.size + 2 ∨ c = s1.heap.objs.size + 3 ∨ c = s1.heap.objs.size ∨ c = s1.heap.objs.size + 1 := by simpa using hcm
      have hle : s1.heap.objs.size ≤ c := by
        rcases e' with z | z | z | z | z
        · rw [z]; exact Nat.le_add_right _ _
        · rw [z]; exact Nat.le_add_right _ _
        · rw [z]; exact Nat.le_add_right _ _
        · rw [z]; exact Nat.le_refl _
        · rw [z]; exact Nat.le_add_right _ _
      exact I1.fpOk hle (I1.hok.fresh hle)
theorem walk_zipG {K : PySem.W.Frag} {A B : Src} {xs ys : List V} : Walk (ItzG K A B) (min xs.length ys.length) (fun H => A.At K H xs ∧ B.At K H ys) (YPair (fun i => xs[i]?) (fun i => ys[i]?)) := by
  refine ⟨fun i _ hi q => ?_, fun _ q => ⟨xs, ys, q.1, q.2, rfl⟩, fun i H v H' _ q y => ?_⟩
  · have h1 : i < xs.length := by omega
    have h2 : i < ys.length := by omega
    exact ⟨xs, ys, xs[i], ys[i], q.1, q.2, by simp [h1], by simp [h2]⟩
  · obtain ⟨T, x, z, h1, h2, h3, h4, h5⟩ := y
    exact ⟨T, x, z, h1, h2, h3, h4 xs q.1, h5 ys q.2⟩
/-- a frozen thing as a source -/
def srcD : D → Option (List D)
  | .lst _ ds => some ds
  | .tup ds => some ds
  | .str x => some (chars x)
  | _ => none
theorem src_of {C : Ctx} {s : Sx} {d : D} {v : V} {ds : List D} (r : Rep C.K C.w s d v []) (h : srcD d = some ds) : ∃ (A : Src) (xs : List V), v = A.val ∧ (∀ s', Go s s' → A.At C.K s'.H xs) ∧ RepL C.K C.w s ds xs [] := by
  cases d with
  | lst b es =>
    cases h
    cases b with
    | true => obtain ⟨a, vs, o', e, q, eo, r⟩ := r; cases eo
    | false => obtain ⟨a, vs, e, q, eo, r⟩ := r; exact ⟨.lst a, vs, e, fun s' g => (g.fzL q).sq, r⟩
  | tup es =>
    cases h
    obtain ⟨a, vs, e, q, r⟩ := r
    exact ⟨.tup a, vs, e, fun s' g => g.kp.sqT q, r⟩
  | str x =>
    cases h
    refine ⟨.str x, _, r.1, fun s' g => rfl, ?_⟩
    unfold chars
    induction x.cps.toList with
    | nil => exact ⟨rfl, rfl⟩
    | cons c cs ih => exact RepL.cons ⟨rfl, rfl⟩ ih
  | _ => cases h
def zipK (f g : Env → M D) : Env → M (List D) := fun ρ => M.bind (fzK f ρ) fun x => M.bind (fzK g ρ) fun y => match x, y with
    | .lst _ xs, .lst _ ys => M.ret (zipD xs ys)
    | .tup xs, .tup ys => M.ret (zipD xs ys)
    | .lst _ xs, .tup ys => M.ret (zipD xs ys)
    | .str s, .lst _ ys => M.ret (zipD (chars s) ys)
    | _, _ => M.bad
theorem zip_ok {C : Ctx} {σ : L2.St} {x y : D} {μ : Sto} {F : List D → Sto → Prop} (h : ResG C σ ((match x, y with
    | .lst _ xs, .lst _ ys => M.ret (zipD xs ys)
    | .tup xs, .tup ys => M.ret (zipD xs ys)
    | .lst _ xs, .tup ys => M.ret (zipD xs ys)
    | .str s, .lst _ ys => M.ret (zipD (chars s) ys)
    | _, _ => M.bad : M (List D)) μ) F) : ∃ xs ys, srcD x = some xs ∧ srcD y = some ys ∧ F (zipD xs ys) μ := by
  cases x with
  | lst b xs =>
    cases y with
    | lst c ys => exact ⟨xs, ys, rfl, rfl, h⟩
    | tup ys => exact ⟨xs, ys, rfl, rfl, h⟩
    | _ => exact h.elim
  | tup xs =>
    cases y with
    | tup ys => exact ⟨xs, ys, rfl, rfl, h⟩
    | _ => exact h.elim
  | str z =>
    cases y with
    | lst c ys => exact ⟨chars z, ys, rfl, rfl, h⟩
    | _ => exact h.elim
  | _ => cases y <;> exact h.elim
section
variable {C : Ctx} {tg a b : Expr} {f g : Env → M D} {pos p tpos : Pos}
theorem Go.lessOf {K : PySem.W.Frag} {w : World} {s : Sx} {o : List Addr} {μ : Sto} (W : Wd K w (s.less o) μ) {A : Src} {xs : List V} (h : ∀ s', Go (s.less o) s' → A.At K s'.H xs) : A.At K s.H xs := h (s.less o) (Go.refl W)
theorem ok_izip {elts : List Expr} {kk : Nat} (hg : Gl C.X "zip") (hm : C.X.mg "zip" = none) (ha : OkE C a f) (hb : OkE C b g) (hs : notStar a = true) (hs2 : notStar b = true) : OkI C (.Tuple elts kk tpos) (.Call (.Name "zip" p) [a, b] [] pos) (zipK f g) :=
  PI_imp (pi_zipG hg hm (pa_cons ha (pa_cons hb pa_nil (notStar_ok hs2 [] _)) (notStar_ok hs _ _)) (notStar_ok hs _ _) (noStars (es := [b]) (by simp [hs2]) _ _)) fun σ H R ⟨s, ρ, own, μ, e1, p, q⟩ => ⟨s, ρ, own, μ, e1, p, q.bind.bind.mono fun d μ1 h1 v s1 o po => by
    obtain ⟨ev1, wd1, r1⟩ := po.fzn
    have h1 : ResG C σ (M.bind (fzK g ρ) (fun y => match d.fz, y with
      | .lst _ xs, .lst _ ys => M.ret (zipD xs ys)
      | .tup xs, .tup ys => M.ret (zipD xs ys)
      | .lst _ xs, .tup ys => M.ret (zipD xs ys)
      | .str s, .lst _ ys => M.ret (zipD (chars s) ys)
      | _, _ => M.bad) μ1) _ := h1
    refine ⟨s1.less o, ρ, own, μ1, rfl, p.step ev1 wd1, h1.bind.bind.mono fun d2 μ2 h2 v2 s2 o2 po2 => ?_⟩
    obtain ⟨ev2, wd2, r2⟩ := po2.fzn
    obtain ⟨xs, ys, hx, hy, hF⟩ := zip_ok (show ResG C σ ((match d.fz, d2.fz with
      | .lst _ xs, .lst _ ys => M.ret (zipD xs ys)
      | .tup xs, .tup ys => M.ret (zipD xs ys)
      | .lst _ xs, .tup ys => M.ret (zipD xs ys)
      | .str s, .lst _ ys => M.ret (zipD (chars s) ys)
      | _, _ => M.bad : M (List D)) μ2) _ from h2)
    have r1' := ev2.rep0 wd1 r1
    obtain ⟨A, xv, evA, hA, rA⟩ := src_of r1' hx
    obtain ⟨B, yv, evB, hB, rB⟩ := src_of r2 hy
    refine ⟨A, B, xv, yv, by rw [evA, evB], Go.lessOf wd2 hA, Go.lessOf wd2 hB, hF _ (s2.less o2) (ev1.trans ev2) wd2 (walkK_pair (hw := walk_zipG) (fun s' g => ⟨hA s' g, hB s' g⟩) rA rB)⟩⟩
end
end Vf

/-! VL -/
set_option autoImplicit false
set_option linter.all false
set_option Elab.async false
set_option maxHeartbeats 4000000
set_option maxRecDepth 10000
/-! VL: list(enumerate(x)). -/
namespace Vf
open PySem PySem.Spec PyProof.Rows L2
section
variable {prog : Program} {w : World} {A : Around} {E : Value → Shared → Prop} {s : Shared}
abbrev tupObj (i : Int) (t : Tok) (x : Value) : Obj := { cls := .type "tuple", data := .seq #[.int i t, x] }
/-- a turn whose last pair is held by another -/
theorem en_turn {e it T : Addr} {fp : List Addr} {n i : Nat} {P : Nat → Value → Prop} {St : Nat → Heap → Prop} {old : Value} {f : Bool} {oT : Obj} {Q : Value → Shared → Prop}
    (D : Draws prog w A it fp n P St) (he : IsEnumHeld s.heap e it i old T f) (hT : s.heap.get? T = some oT) (te : T ≠ e) (ti : T ≠ it) (hst : St i s.heap) (hlt : i < n) (hne : e ≠ it) (hef : e ∉ fp)
    (hQ : ∀ x h' t, P i x → IsEnumHeld h' e it ((i : Int) + 1) old T true → St (i + 1) h' → h'.get? s.heap.objs.size = some (tupObj i t x) → h'.objs.size = s.heap.objs.size + 1 →
      (∀ b o, b ≠ e → b ≠ it → s.heap.get? b = some o → h'.get? b = some o) → Q (.ref s.heap.objs.size) { s with heap := h', toks := t + 1 }) :
    wpAny (model prog w) A (Builtin.«enumerate.__next__» ⟨[.ref e], []⟩) (fun r s' => ∃ v, r = .done (.ret v) ∧ Q v s') E s := by
  obtain ⟨a0, gg, dd, t0, oo⟩ := s
  show wpAny (model prog w) A (field (.ref e) 2 >>= _) _ E _
  refine wpAny_bind (wpAny_field he rfl (x := .ref it) rfl (wpAny_bind (D.item i _ _ _ hlt hst fun x a1 t1 px st1 u1 => ?_)))
  have u1 : Heap.SameBut it a0 a1 := u1
  have e1 : IsEnumHeld a1 e it i old T f := (u1.2 e hne).trans he
  show wpAny (model prog w) A (field (.ref e) 3 >>= _) _ E ⟨a1, gg, dd, t1, oo⟩
  refine wpAny_bind (wpAny_field e1 rfl (x := rawInt i) rfl ?_)
  show wpAny (model prog w) A (field (.ref e) 4 >>= _) _ E ⟨a1, gg, dd, t1, oo⟩
  refine wpAny_bind (wpAny_field e1 rfl (x := .none) rfl ?_)
  show wpAny (model prog w) A (mkInt i >>= _) _ E ⟨a1, gg, dd, t1, oo⟩
  refine wpAny_bind (wpAny_mkInt (show wpAny (model prog w) A (setField (.ref e) 3 (rawInt ((i : Int) + 1)) >>= _) _ E ⟨a1, gg, dd, t1 + 1, oo⟩ from ?_))
  refine wpAny_bind (wpAny_setField_rec e1 (by simp) fun a2 e2 u2 => ?_)
  have u2 : Heap.SameBut e a1 a2 := u2
  have e2 : IsEnumHeld a2 e it ((i : Int) + 1) old T f := e2
  show wpAny (model prog w) A (setField (.ref e) 4 .none >>= _) _ E ⟨a2, gg, dd, t1 + 1, oo⟩
  refine wpAny_bind (wpAny_setField_rec e2 (by simp) fun a3 e3 u3 => ?_)
  have u3 : Heap.SameBut e a2 a3 := u3
  have e3 : IsEnumHeld a3 e it ((i : Int) + 1) old T f := e3
  show wpAny (model prog w) A (newTuple [.int i t1, x] >>= _) _ E ⟨a3, gg, dd, t1 + 1, oo⟩
  have hz : a3.objs.size = a0.objs.size := by rw [u3.1, u2.1, u1.1]
  have lt : e < a0.objs.size := Heap.lt_size he
  have kp : ∀ b o, b ≠ e → b ≠ it → a0.get? b = some o → (a3.push (tupObj i t1 x)).get? b = some o := fun b o n1 n2 z =>
    Heap.get?_push_of_some _ (u3.extBut b o n1 (u2.extBut b o n1 (u1.extBut b o n2 z)))
  refine wpAny_bind (wpAny_newTuple (show wpAny (model prog w) A (Builtin.SmallTypes.ownedTupleIsFree (.ref e) >>= _) _ E ⟨a3.push (tupObj i t1 x), gg, dd, t1 + 1, oo⟩ from ?_))
  refine wpAny_bind (wpAny_tupleHeld_enum (s := ⟨a3.push (tupObj i t1 x), gg, dd, t1 + 1, oo⟩) (Heap.get?_push_of_some _ e3) (kp T oT te ti hT) fun a5 e5 u5 => ?_)
  have u5 : Heap.SameBut e (a3.push (tupObj i t1 x)) a5 := u5
  have nt : a5.get? a0.objs.size = some (tupObj i t1 x) := u5.extBut _ _ (Nat.ne_of_gt lt) (by rw [← hz]; exact Heap.get?_push_size _ rfl)
  rw [if_neg Bool.false_ne_true, show a3.objs.size = a0.objs.size from hz]
  refine wpAny_pure ⟨_, rfl, hQ x a5 t1 px e5 (D.frame _ _ _ st1 fun b hb o z => ?_) nt (by show a5.objs.size = a0.objs.size + 1; rw [u5.1, Heap.size_push, hz]) fun b o n1 n2 z => u5.extBut b o n1 (kp b o n1 n2 z)⟩
  have n1 : b ≠ e := fun q => hef (q ▸ hb)
  exact u5.extBut b o n1 (Heap.get?_push_of_some _ (u3.extBut b o n1 (u2.extBut b o n1 z)))
theorem en_next {e it T : Addr} {fp : List Addr} {n i : Nat} {P : Nat → Value → Prop} {St : Nat → Heap → Prop} {old : Value} {f : Bool} {oT : Obj} {Q : Option Value → Shared → Prop}
    (D : Draws prog w A.in1 it fp n P St) (he : IsEnumHeld s.heap e it i old T f) (hT : s.heap.get? T = some oT) (te : T ≠ e) (ti : T ≠ it) (hst : St i s.heap) (hlt : i < n) (hne : e ≠ it) (hef : e ∉ fp)
    (hQ : ∀ x h' t, P i x → IsEnumHeld h' e it ((i : Int) + 1) old T true → St (i + 1) h' → h'.get? s.heap.objs.size = some (tupObj i t x) → h'.objs.size = s.heap.objs.size + 1 →
      (∀ b o, b ≠ e → b ≠ it → s.heap.get? b = some o → h'.get? b = some o) → Q (some (.ref s.heap.objs.size)) { s with heap := h', toks := t + 1 }) :
    wpAny (model prog w) A (pyNext (.ref e)) Q E s := by
  have ty : s.TypeIs (.ref e) "enumerate" := ⟨_, he, rfl⟩
  unfold pyNext
  exact wpAny_bind (wpAny_attempt (wpAny_callSpecial?_slot (name := Str.ofString "__next__") ty F.slot_enumerate_next (wpAny_call_entry F.slot_enumerate_next ty F.entry_enumerate_next (en_turn D he hT te ti hst hlt hne hef fun x h' t a b c d k q => wpAny_pure (hQ x h' t a b c d k q)) (F.args_enumerate_next_1 _))))
/-- the end -/
theorem en_stop {e it T : Addr} {fp : List Addr} {n : Nat} {P : Nat → Value → Prop} {St : Nat → Heap → Prop} {i : Int} {old : Value} {f : Bool} {Q : Option Value → Shared → Prop}
    (D : Draws prog w A.in1 it fp n P St) (he : IsEnumHeld s.heap e it i old T f) (hst : St n s.heap) (hQ : ∀ h', Heap.ExtBut it s.heap h' → Q none { s with heap := h' }) : wpAny (model prog w) A (pyNext (.ref e)) Q E s := by
  have ty : s.TypeIs (.ref e) "enumerate" := ⟨_, he, rfl⟩
  unfold pyNext
  refine wpAny_bind (wpAny_attempt (wpAny_callSpecial?_slot (name := Str.ofString "__next__") ty F.slot_enumerate_next (wpAny_call_entry F.slot_enumerate_next ty F.entry_enumerate_next ?_ (F.args_enumerate_next_1 _))))
  show wpAny (model prog w) A.in1 (field (.ref e) 2 >>= _) _ _ s
  refine wpAny_bind (wpAny_field he rfl (x := .ref it) rfl (wpAny_bind (D.done _ _ _ hst fun h' x k ⟨o, ho, hc⟩ => ?_)))
  exact wpAny_bind (wpAny_isInstance (T := "StopIteration") (b := true) ⟨o, ho, hc⟩ isSubtype_stop (wpAny_pure (hQ _ k)))
end
/-! ### the drain -/
abbrev lstO (acc : Array Value) (c : Nat) : Obj := { cls := .type "list", dict := none, data := .seq acc c, slots := #[] }
def EnAt (h : Heap) (e it S : Addr) (i : Nat) : Prop := (∃ old, IsEnum h e it i old) ∨ ∃ old T f oT, IsEnumHeld h e it i old T f ∧ h.get? T = some oT ∧ T ≠ e ∧ T ≠ it ∧ T ≠ S
def EnIts (P : Nat → Value → Prop) (h : Heap) (e it S : Addr) (acc : Array Value) (i : Nat) : Prop := acc.size = i ∧ ∀ j v, acc[j]? = some v → ∃ T t x, v = .ref T ∧ P j x ∧ h.get? T = some (tupObj j t x) ∧ S < T ∧ T ≠ e ∧ T ≠ it
theorem EnIts.nil {P : Nat → Value → Prop} {h : Heap} {e it S : Addr} : EnIts P h e it S #[] 0 := ⟨rfl, fun j v z => by simp at z⟩
theorem EnIts.keep {P : Nat → Value → Prop} {h h' : Heap} {e it S : Addr} {acc : Array Value} {i : Nat} (x : EnIts P h e it S acc i) (k : ∀ b o, b ≠ S → b ≠ e → b ≠ it → h.get? b = some o → h'.get? b = some o) : EnIts P h' e it S acc i :=
  ⟨x.1, fun j v z => by
    obtain ⟨T, t, y, a, b, c, d1, d2, d3⟩ := x.2 j v z
    exact ⟨T, t, y, a, b, k _ _ (Nat.ne_of_gt d1) d2 d3 c, d1, d2, d3⟩⟩
theorem EnIts.push {P : Nat → Value → Prop} {h : Heap} {e it S T : Addr} {acc : Array Value} {i : Nat} {t : Tok} {y : Value} (x : EnIts P h e it S acc i) (p : P i y) (hT : h.get? T = some (tupObj i t y)) (d1 : S < T) (d2 : T ≠ e) (d3 : T ≠ it) : EnIts P h e it S (acc.push (.ref T)) (i + 1) := by
  refine ⟨by rw [Array.size_push, x.1], fun j v z => ?_⟩
  rw [Array.getElem?_push, x.1] at z
  by_cases hj : j = i
  · rw [if_pos hj] at z
    cases z
    rw [hj]
    exact ⟨T, t, y, rfl, p, hT, d1, d2, d3⟩
  · rw [if_neg hj] at z
    exact x.2 j v z
section
variable {prog : Program} {w : World} {A : Around} {R : Result → Shared → Prop} {e it S : Addr} {fp : List Addr} {n : Nat} {P : Nat → Value → Prop} {St : Nat → Heap → Prop}
theorem en_drain (D : Draws prog w A.in1.in1 it fp n P St) (hne : e ≠ it) (hef : e ∉ fp) (hSe : S ≠ e) (hSi : S ≠ it) (hSf : S ∉ fp) (hn : n ≤ sizeLine) (res : Value) :
    ∀ (m i : Nat) (s : Shared) (acc : Array Value) (c : Nat), n - i = m → i ≤ n → St i s.heap → EnAt s.heap e it S i → s.heap.get? S = some (lstO acc c) → EnIts P s.heap e it S acc i →
    (∀ h' t acc' c', (∀ b o, b ≠ S → b ≠ e → b ≠ it → s.heap.get? b = some o → h'.get? b = some o) → h'.get? S = some (lstO acc' c') → EnIts P h' e it S acc' n → R (.ok (.ret res)) { s with heap := h', toks := t }) →
    codeAny (model prog w) A (.builtin "list.extend.loop" ⟨[.ref S, .ref e, res], []⟩) R s
  | 0, i, s, acc, c, hm, hi, st, en, hS, its, hR => by
    have ei : i = n := by omega
    subst ei
    refine codeAny_builtin F.entry_extend_loop ?_
    rw [Around.under_plainId F.plain_extend_loop _]
    show wpAny (model prog w) A.in1 (pyNext (.ref e) >>= _) _ _ s
    have fin : ∀ h', Heap.ExtBut it s.heap h' → R (.ok (.ret res)) { s with heap := h' } := fun h' k => hR h' s.toks acc c (fun b o _ _ n3 z => k b o n3 z) (k S _ hSi hS) (its.keep fun b o _ _ n3 z => k b o n3 z)
    rcases en with ⟨old, he⟩ | ⟨old, T, f, oT, he, _, _, _, _⟩
    · exact wpAny_bind (wpAny_pyNext_enum_endD D he st fun h' k => wpAny_pure (fin h' k))
    · exact wpAny_bind (en_stop D he st fun h' k => wpAny_pure (fin h' k))
  | m + 1, i, s, acc, c, hm, hi, st, en, hS, its, hR => by
    have hlt : i < n := by omega
    have hit : it < s.heap.objs.size := let ⟨_, z⟩ := D.live i _ st; Heap.lt_size z
    have hSl : S < s.heap.objs.size := Heap.lt_size hS
    have ec : ((i + 1 : Nat) : Int) = (i : Int) + 1 := by omega
    refine codeAny_builtin F.entry_extend_loop ?_
    rw [Around.under_plainId F.plain_extend_loop _]
    show wpAny (model prog w) A.in1 (pyNext (.ref e) >>= _) _ _ s
    -- behind the turn
    have step : ∀ (x : Value) (h' : Heap) (t : Tok), P i x → St (i + 1) h' → e < s.heap.objs.size → h'.get? s.heap.objs.size = some (tupObj i t x) → EnAt h' e it S (i + 1) → (∀ b o, b ≠ e → b ≠ it → s.heap.get? b = some o → h'.get? b = some o) →
        wpAny (model prog w) A.in1 (updateSeq S (·.push (.ref s.heap.objs.size)) >>= fun _ => again (.builtin "list.extend.loop" ⟨[.ref S, .ref e, res], []⟩)) (fun fin s' => match fin with | .done f => R (.ok f) s' | .again c' => c'.quiet = true ∧ codeAny (model prog w) A c' R s') (fun er s' => R (.error er) s') { s with heap := h', toks := t + 1 } := by
      intro x h' t px st' hel hT en' k
      have hS' := k S _ hSe hSi hS
      have oth : ∀ b o, b ≠ S → h'.get? b = some o → (h'.update S (Obj.mapSeq (·.push (.ref s.heap.objs.size)))).get? b = some o := fun b o nb z => (Heap.get?_update_other _ _ (Ne.symm nb)).trans z
      have hTS : s.heap.objs.size ≠ S := Nat.ne_of_gt hSl
      refine wpAny_bind (wpAny_updateSeq hS' rfl (wpAny_pure ⟨plainId_quiet F.plain_extend_loop _, en_drain D hne hef hSe hSi hSf hn res m (i + 1) { s with heap := h'.update S (Obj.mapSeq (·.push (.ref s.heap.objs.size))), toks := t + 1 } (acc.push (.ref s.heap.objs.size)) _ (by omega) hlt (D.frame _ _ _ st' fun b hb o z => oth b o (fun q => hSf (q ▸ hb)) z) ?_ (Heap.get?_update_self _ hS' rfl) ?_ fun h2 t2 acc2 c2 k2 hS2 its2 => ?_⟩) (by rw [its.1]; omega) (by show (acc.push _).size ≤ sizeLine + 1; rw [Array.size_push, its.1]; omega))
      · rcases en' with ⟨old, he⟩ | ⟨old, T, f, oT, he, hT, r1, r2, r3⟩
        · exact .inl ⟨old, oth _ _ (Ne.symm hSe) he⟩
        · exact .inr ⟨old, T, f, oT, oth _ _ (Ne.symm hSe) he, oth _ _ r3 hT, r1, r2, r3⟩
      · exact (its.keep fun b o n1 n2 n3 z => oth b o n1 (k b o n2 n3 z)).push px (oth _ _ hTS hT) hSl (Nat.ne_of_gt hel) (Nat.ne_of_gt hit)
      · exact hR h2 t2 acc2 c2 (fun b o n1 n2 n3 z => k2 b o n1 n2 n3 (oth b o n1 (k b o n2 n3 z))) hS2 its2
    rcases en with ⟨old, he⟩ | ⟨old, T, f, oT, he, hT, r1, r2, r3⟩
    · refine wpAny_bind (wpAny_pyNext_enum_itemD D he st hlt hne hef fun x h' t px eo st' nt sz k => ?_)
      exact step x h' t px st' (Heap.lt_size he) nt (.inr ⟨_, s.heap.objs.size, false, _, (by rw [ec]; exact eo), nt, Nat.ne_of_gt (Heap.lt_size he), Nat.ne_of_gt hit, Nat.ne_of_gt hSl⟩) k
    · refine wpAny_bind (en_next D he hT r1 r2 st hlt hne hef fun x h' t px eo st' nt sz k => ?_)
      exact step x h' t px st' (Heap.lt_size he) nt (.inr ⟨old, T, true, oT, (by rw [ec]; exact eo), k _ _ r1 r2 hT, r1, r2, r3⟩) k
end
/-! ### list(e) -/
theorem en_no_len : typeLookup (.type "enumerate") "__len__" = pure none := by rw [typeLookup_type, builtinLookup_eq_fast]; kernel_rfl
theorem en_no_hint : typeLookup (.type "enumerate") "__length_hint__" = pure none := by rw [typeLookup_type, builtinLookup_eq_fast]; kernel_rfl
section
variable {prog : Program} {w : World} {A : Around} {E : Value → Shared → Prop} {s : Shared} {e it : Addr} {fp : List Addr} {n : Nat} {P : Nat → Value → Prop} {St : Nat → Heap → Prop}
theorem en_list {Q : Value → Shared → Prop} (D : Draws prog w A.in1.in1.in1 it fp n P St) (he : IsEnum s.heap e it 0 .none) (st : St 0 s.heap) (hne : e ≠ it) (hef : e ∉ fp) (hfp : ∀ b ∈ fp, b < s.heap.objs.size) (hn : n ≤ sizeLine)
    (hQ : ∀ h' t acc c, (∀ b o, b ≠ e → b ≠ it → s.heap.get? b = some o → h'.get? b = some o) → h'.get? s.heap.objs.size = some (lstO acc c) → EnIts P h' e it s.heap.objs.size acc n → Q (.ref s.heap.objs.size) { s with heap := h', toks := t }) :
    wpAny (model prog w) A (call (.type "list") [.ref e]) Q E s := by
  have lt : e < s.heap.objs.size := Heap.lt_size he
  have lti : it < s.heap.objs.size := let ⟨_, z⟩ := D.live 0 _ st; Heap.lt_size z
  have hSe : s.heap.objs.size ≠ e := Nat.ne_of_gt lt
  refine callType_codes (Q₁ := fun u s1 => u = .ref s.heap.objs.size ∧ s1 = { s with heap := s.heap.push (lstO #[] 0) }) F.called_list (F.typeCall_list_1 _) F.entry_list_init (code_list_new _ ⟨rfl, rfl⟩) fun u s1 ⟨e1, e2⟩ => ?_
  subst e1 e2
  have g0 : (s.heap.push (lstO #[] 0)).get? s.heap.objs.size = some (lstO #[] 0) := Heap.get?_push_size _ rfl
  have up : ∀ (h : Heap) (f : Obj → Obj), (∀ b o, s.heap.get? b = some o → h.get? b = some o) → ∀ b o, s.heap.get? b = some o → (h.update s.heap.objs.size f).get? b = some o := fun h f q b o z => (Heap.get?_update_other _ _ (Nat.ne_of_gt (Heap.lt_size z))).trans (q b o z)
  have k1 : ∀ b o, s.heap.get? b = some o → (s.heap.push (lstO #[] 0)).get? b = some o := fun b o z => Heap.get?_push_of_some _ z
  have g1 := Heap.get?_update_self (Obj.mapSeq (fun _ => (#[] : Array Value))) g0 rfl
  have k2 := up _ (Obj.mapSeq (fun _ => (#[] : Array Value))) k1
  have g2 := Heap.get?_update_self (Obj.mapSeq (·.push Value.none)) g1 rfl
  have g3 := Heap.get?_update_self (Obj.mapSeq (·.pop)) g2 rfl
  have k4 := up _ (Obj.mapSeq (·.pop)) (up _ (Obj.mapSeq (·.push Value.none)) k2)
  have ty : ∀ (h : Heap) (t : Tok), (∀ b o, s.heap.get? b = some o → h.get? b = some o) → ({ s with heap := h, toks := t } : Shared).TypeIs (.ref e) "enumerate" := fun h t k => ⟨_, k _ _ he, rfl⟩
  refine ⟨⟨_, g0, rfl⟩, F.args_list_init_2 _ _, ?_⟩
  show wpAny (model prog w) A.in1.in1 (do let old ← Builtin.List.listItems (.ref s.heap.objs.size); Builtin.List.listUpdate (.ref s.heap.objs.size) (fun _ => #[]); letGo old.toList.reverse; Builtin.List.listExtendWith (.ref s.heap.objs.size) (.ref e) .none) _ _ _
  refine wpAny_bind ?_; unfold Builtin.List.listItems; refine wpAny_bind (wpAny_seqItems g0 rfl (wpAny_pure ?_))
  show wpAny (model prog w) A.in1.in1 (updateSeq s.heap.objs.size (fun _ => #[]) >>= fun _ => letGo (#[] : Array Value).toList.reverse >>= fun _ => Builtin.List.listExtendWith (.ref s.heap.objs.size) (.ref e) .none) _ _ _
  refine wpAny_bind (wpAny_updateSeq g0 rfl (wpAny_bind (wpAny_letGo ?_)))
  have h1 : Builtin.List.listSameRef (.ref s.heap.objs.size) (.ref e) = false := by simp [Builtin.List.listSameRef, hSe]
  have h2 : (Value.type "enumerate" == Value.type "list") = false := by decide
  have h3 : (Value.type "enumerate" == Value.type "tuple") = false := by decide
  unfold Builtin.List.listExtendWith; refine wpAny_bind (wpAny_typeOf (ty _ _ k2) ?_)
  simp only [h1, h2, h3, Bool.or_false, Bool.false_eq_true, if_false]
  refine wpAny_bind (wpAny_pyIter_enum (k2 _ _ he) (wpAny_bind (wpAny_holding ?_)))
  unfold Builtin.List.listLengthHint; refine wpAny_bind (wpAny_specialOf (ty _ _ k2) en_no_len ?_)
  show wpAny (model prog w) A.in1.in1 (specialOf (Value.ref e) (Str.ofString "__length_hint__") >>= _) _ _ _
  refine wpAny_bind (wpAny_specialOf (ty _ _ k2) en_no_hint (wpAny_pure ?_))
  show wpAny (model prog w) A.in1.in1 (rule "list.extend.makes-room" >>= fun _ => Builtin.List.listTouch (.ref s.heap.objs.size) >>= fun _ => again (.builtin "list.extend.loop" ⟨[.ref s.heap.objs.size, .ref e, .none], []⟩)) _ _ _
  refine wpAny_bind (wpAny_rule (wpAny_bind ?_))
  show wpAny (model prog w) A.in1.in1 (updateSeq s.heap.objs.size (·.push .none) >>= fun _ => updateSeq s.heap.objs.size (·.pop)) _ _ _
  refine wpAny_bind (wpAny_updateSeq g1 rfl (wpAny_updateSeq (hz := by seq_fits) g2 rfl (wpAny_pure ⟨plainId_quiet F.plain_extend_loop _, ?_⟩)))
  refine en_drain (A := A.in1) D hne hef hSe (Nat.ne_of_gt lti) (fun z => Nat.lt_irrefl _ (hfp _ z)) hn .none n 0 _ #[] _ rfl (Nat.zero_le _) (D.frame _ _ _ st fun b hb o z => k4 b o z) (.inl ⟨.none, k4 _ _ he⟩) g3 EnIts.nil fun h' t acc c k hS its => ⟨rfl, hQ h' t acc c (fun b o n2 n3 z => k b o (Nat.ne_of_lt (Heap.lt_size z)) n2 n3 (k4 b o z)) hS its⟩
end
/-! ### enumerate(x) -/
abbrev enObj (it : Addr) : Obj := { cls := .type "enumerate", data := .fields #[.none, .bool false, .ref it, rawInt 0, .none, .none] }
theorem en_new {v : Value} {o : Obj} {H : Heap → Prop} (B : Begins v o H) :
    Meets (Builtin.«enumerate.__new__» ⟨[.type "enumerate", v], []⟩) (fun _ R s => H s.heap ∧ R (.ok (.ret (.ref (s.heap.push o).objs.size))) { s with heap := (s.heap.push o).push (enObj s.heap.objs.size) }) :=
  .of_wp fun prog w A R s h => by
    obtain ⟨a0, gg, dd, t0, oo⟩ := s
    obtain ⟨h1, h⟩ := h
    have hsub := sub_enumerate
    have q1 : ∀ {A' : Around} {E' : Value → Shared → Prop} {Q' : Value → Shared → Prop}, Q' (.ref a0.objs.size) ⟨a0.push o, gg, dd, t0, oo⟩ → wpAny (model prog w) A' (pyIter v) Q' E' ⟨a0, gg, dd, t0, oo⟩ := fun q => B.iter prog w _ _ ⟨a0, gg, dd, t0, oo⟩ _ h1 q
    wp_walk using q1
    refine wpAny_stack_any fun st => wpAny_pure ?_
    split
    · rename_i c _ _ _ _ _
      cases (c == Value.type "enumerate") <;> (wp_walk using q1; exact ⟨_, rfl, h⟩)
    · wp_walk using q1; exact ⟨_, rfl, h⟩
section
variable {prog : Program} {w : World} {A : Around} {E : Value → Shared → Prop} {s : Shared}
theorem en_begin {v : Value} {o : Obj} {H : Heap → Prop} {Q : Value → Shared → Prop} (B : Begins v o H) (h1 : H s.heap)
    (h : ∀ h', IsEnum h' (s.heap.objs.size + 1) s.heap.objs.size 0 .none → h'.get? s.heap.objs.size = some o → h'.objs.size = s.heap.objs.size + 2 → (∀ b o, s.heap.get? b = some o → h'.get? b = some o) → Q (.ref (s.heap.objs.size + 1)) { s with heap := h' }) :
    wpAny (model prog w) A (call (.type "enumerate") [v]) Q E s := by
  refine callType_new F.called_enumerate (by decide) (F.typeCall_enumerate_1 _) (F.newCall_enumerate_1 _) (fun obj => F.args_object_init_2 obj _) F.entry_enumerate_new (en_new B) ⟨h1, ?_⟩
  have hz : (s.heap.push o).objs.size = s.heap.objs.size + 1 := Heap.size_push ..
  rw [hz]
  have he : IsEnum ((s.heap.push o).push (enObj s.heap.objs.size)) (s.heap.objs.size + 1) s.heap.objs.size 0 .none := by
    have q := Heap.get?_push_size (s.heap.push o) (o := enObj s.heap.objs.size) rfl
    rw [hz] at q
    exact q
  exact ⟨⟨_, he, rfl⟩, h _ he (Heap.get?_push_of_some _ (Heap.get?_push_size _ B.free)) (by rw [Heap.size_push, hz]) fun b o z => Heap.get?_push_of_some _ (Heap.get?_push_of_some _ z)⟩
end
/-! ### the pairs are laid -/
def layT (H : Hp) : Nat → List Addr → List V → Hp
  | k, T :: ts, x :: xs => upd (layT H (k + 1) ts xs) T (.tup [.int k, x])
  | _, _, _ => H
theorem layT_out {H : Hp} : ∀ {k : Nat} {ts : List Addr} {xs : List V} {b : Addr}, b ∉ ts → layT H k ts xs b = H b
  | k, T :: ts, x :: xs, b, h => by
    show upd (layT H (k + 1) ts xs) T _ b = H b
    rw [upd_ne fun e => h (by rw [e]; exact List.mem_cons_self), layT_out fun z => h (List.mem_cons_of_mem _ z)]
  | _, [], _, _, _ => rfl
  | _, _ :: _, [], _, _ => rfl
theorem layT_at {H : Hp} : ∀ {k : Nat} {ts : List Addr} {xs : List V} {j : Nat} {T : Addr} {x : V}, ts.Nodup → ts[j]? = some T → xs[j]? = some x → layT H k ts xs T = some (.tup [.int ((k + j : Nat) : Int), x])
  | k, T :: ts, x :: xs, 0, T', x', nd, h1, h2 => by
    cases h1
    cases h2
    exact upd_same
  | k, T :: ts, x :: xs, j + 1, T', x', nd, h1, h2 => by
    have nd := List.nodup_cons.mp nd
    have h1 : ts[j]? = some T' := h1
    show upd (layT H (k + 1) ts xs) T _ T' = _
    rw [upd_ne fun e => nd.1 (by rw [← e]; exact List.mem_of_getElem? h1), layT_at (k := k + 1) (x := x') nd.2 h1 h2, show k + 1 + j = k + (j + 1) by omega]
  | _, [], _, _, _, _, _, h, _ => by cases h
  | _, _ :: _, [], _, _, _, _, _, h => by cases h
theorem layT_ok {P : Program} {w : World} {H : Hp} {h : Heap} (ok : HOk P w H h) : ∀ {k : Nat} {ts : List Addr} {xs : List V}, ts.Nodup → (∀ T ∈ ts, H T = none) → (∀ (j : Nat) (T : Addr) (x : V), ts[j]? = some T → xs[j]? = some x → ∃ t y, RelV x y ∧ h.get? T = some (tupObj ((k + j : Nat) : Int) t y)) → HOk P w (layT H k ts xs) h
  | k, T :: ts, x :: xs, nd, hn, hc => by
    have nd := List.nodup_cons.mp nd
    have ih := layT_ok ok (k := k + 1) (ts := ts) (xs := xs) nd.2 (fun T hT => hn T (List.mem_cons_of_mem _ hT)) fun j T x h1 h2 => by
      obtain ⟨t, y, r, q⟩ := hc (j + 1) T x h1 h2
      exact ⟨t, y, r, by rw [show k + 1 + j = k + (j + 1) by omega]; exact q⟩
    have hT : layT H (k + 1) ts xs T = none := by rw [layT_out nd.1]; exact hn T List.mem_cons_self
    obtain ⟨t, y, r, q⟩ := hc 0 T x rfl rfl
    intro b u e
    have e : upd (layT H (k + 1) ts xs) T (.tup [.int k, x]) b = some u := e
    by_cases hb : b = T
    · subst hb
      rw [upd_same] at e
      cases e
      exact ⟨by rw [sizeLine_eq]; exact (by decide : (2 : Nat) ≤ 16777216), [.int k t, y], .cons ⟨t, rfl⟩ (.cons r .nil), _, q, rfl, 0, rfl⟩
    · rw [upd_ne hb] at e
      exact (ih b u e).stay (fun _ _ _ z => z) (fun c z => (upd_ne (ne_of_none z hT)).trans z) fun c xs z => (upd_ne (ne_of_none z hT)).trans z
  | _, [], _, _, _, _ => ok
  | _, _ :: _, [], _, _, _ => ok
section
variable {X : Cx} {pins : List (Addr × Obj)} {σ : L2.St} {H H' : Hp} {s s1 : Shared}
/-- many new things -/
theorem inv_many {h' : Heap} {t' : Nat} (I : Inv X pins σ H s) (k : ∀ b u, s.heap.get? b = some u → h'.get? b = some u) (hx : ∀ b u, H b = some u → H' b = some u) (hn : ∀ b, b < s.heap.objs.size → H b = none → H' b = none) (ok : HOk X.prog X.w H' h') : Inv X pins σ H' { s with heap := h', toks := t' } :=
  I.call (ch := []) ⟨fun b o e _ _ _ => k b o e, fun b o e _ _ _ => ⟨o.slots, k b o e⟩, fun b o e n _ => hn b (Heap.lt_size e) n, fun b o e _ => ⟨o, k b o e⟩, fun b xs e => hx _ _ e, fun b o u e => hx _ _ e, fun b ps e => ⟨#[], by simpa using hx _ _ e⟩⟩ ok I.bare fun b z => absurd z (by simp)
def tgt : Value → Addr
  | .ref T => T
  | _ => 0
/-- the pairs (j, x) -/
def Pairs (H H2 : Hp) (xs ps : List V) : Prop := ps.length = xs.length ∧ (∀ b u, H b = some u → H2 b = some u) ∧ ∀ (j : Nat) (x : V), xs[j]? = some x → ∃ T, ps[j]? = some (.ref T) ∧ H2 T = some (.tup [.int (j : Nat), x])
theorem paired_at {α β : Type} {Rl : α → β → Prop} : ∀ {xs : List α} {ys : List β}, Paired Rl xs ys → ∀ {j : Nat} {x : α} {y : β}, xs[j]? = some x → ys[j]? = some y → Rl x y
  | _, _, .nil, _, _, _, h, _ => by simp at h
  | _, _, .cons a _, 0, _, _, h1, h2 => by cases h1; cases h2; exact a
  | _, _, .cons _ r, j + 1, _, _, h1, h2 => paired_at r (j := j) h1 h2
theorem len_core {a : Addr} {xs : List V} {its : List Value} {o : Obj} {Hh : Heap → Prop} {St : Nat → Heap → Prop} {Q : VK} (hc : X.calm = true) (I : Inv X pins σ H s1) (rv : Vals xs its) (hz : xs.length ≤ sizeLine) (B : Begins (.ref a) o Hh) (hH : Hh s1.heap) (ha : a < s1.heap.objs.size)
    (D : ∀ A : Around, A.handled = none → Draws X.prog X.w A s1.heap.objs.size [s1.heap.objs.size, a] its.toArray.size (fun i v => its.toArray[i]? = some v) St) (hSt : ∀ h' : Heap, h'.get? s1.heap.objs.size = some o → (∀ b ob, s1.heap.get? b = some ob → h'.get? b = some ob) → St 0 h')
    (q : ∀ H2 ps p, Pairs H H2 xs ps → H2 p = none → Q (.ref p) (upd H2 p (.lst ps))) :
    wpAny (model X.prog X.w) X.A (call (.type "enumerate") [.ref a]) (fun u s => wpAny (model X.prog X.w) X.A (call (.type "list") [u]) (EP X pins σ Q) X.xe s) X.xe s1 := by
  refine en_begin B hH fun h1 he ho hz1 hk1 => ?_
  have hlen : its.toArray.size = xs.length := by rw [List.size_toArray, ← rv.length]
  refine en_list (s := { s1 with heap := h1 }) (D _ (I.ok.hd hc)) he (hSt h1 ho hk1) (Nat.succ_ne_self _) (fun z => ?_) (fun b z => ?_) (by rw [hlen]; exact hz) fun h' t acc c hk hS hits => ?_
  · rcases List.mem_cons.mp z with z | z
    · exact absurd z (Nat.succ_ne_self _)
    · exact absurd (List.mem_singleton.mp z) (Nat.ne_of_gt (Nat.lt_succ_of_lt ha))
  · show b < h1.objs.size
    rcases List.mem_cons.mp z with z | z
    · rw [z, hz1]; exact Nat.lt_add_of_pos_right (by decide)
    · rw [List.mem_singleton.mp z, hz1]; exact Nat.lt_add_right 2 ha
  · have hS : h'.get? h1.objs.size = some (lstO acc c) := hS
    have hits : EnIts (fun i v => its.toArray[i]? = some v) h' (s1.heap.objs.size + 1) s1.heap.objs.size h1.objs.size acc its.toArray.size := hits
    have keep : ∀ b u, s1.heap.get? b = some u → h'.get? b = some u := fun b u z => by
      have lt := Heap.lt_size z
      exact hk b u (Nat.ne_of_lt (Nat.lt_succ_of_lt lt)) (Nat.ne_of_lt lt) (hk1 b u z)
    have item : ∀ (j : Nat) (v : Value), acc.toList[j]? = some v → ∃ T t x, v = .ref T ∧ its[j]? = some x ∧ h'.get? T = some (tupObj j t x) ∧ h1.objs.size < T := fun j v z => by
      obtain ⟨T, t, x, e1, e2, e3, e4, _, _⟩ := hits.2 j v (by rw [← Array.getElem?_toList]; exact z)
      exact ⟨T, t, x, e1, by simpa using e2, e3, e4⟩
    have tsl : (acc.toList.map tgt).length = xs.length := by rw [List.length_map, Array.length_toList, hits.1, hlen]
    have tsa : ∀ (j : Nat) (T : Addr), (acc.toList.map tgt)[j]? = some T → acc.toList[j]? = some (.ref T) ∧ ∃ t x, its[j]? = some x ∧ h'.get? T = some (tupObj j t x) ∧ h1.objs.size < T := fun j T z => by
      rw [List.getElem?_map] at z
      obtain ⟨v, z1, z2⟩ := Option.map_eq_some_iff.mp z
      obtain ⟨T', t, x, e1, e2, e3, e4⟩ := item j v z1
      subst e1
      cases z2
      exact ⟨z1, t, x, e2, e3, e4⟩
    have nd : (acc.toList.map tgt).Nodup := by
      refine List.pairwise_iff_getElem.mpr fun i j hi hj hij e => ?_
      obtain ⟨_, t1, x1, _, g1, _⟩ := tsa i _ (List.getElem?_eq_getElem hi)
      obtain ⟨_, t2, x2, _, g2, _⟩ := tsa j _ (List.getElem?_eq_getElem hj)
      rw [e, g2] at g1
      simp [tupObj] at g1
      omega
    have big : ∀ T ∈ acc.toList.map tgt, h1.objs.size < T := fun T hT => by
      obtain ⟨j, hj⟩ := List.mem_iff_getElem?.mp hT
      obtain ⟨_, _, _, _, _, z⟩ := tsa j T hj
      exact z
    have fr : ∀ T, s1.heap.objs.size ≤ T → H T = none := fun T z => I.hok.fresh z
    have nS : h1.objs.size ∉ acc.toList.map tgt := fun z => Nat.lt_irrefl _ (big _ z)
    have hSn : layT H 0 (acc.toList.map tgt) xs h1.objs.size = none := by rw [layT_out nS]; exact fr _ (by omega)
    have okT : HOk X.prog X.w (layT H 0 (acc.toList.map tgt) xs) h' := layT_ok (I.hok.kept keep) nd (fun T hT => fr T (by have := big T hT; omega)) fun j T x h1 h2 => by
      obtain ⟨_, t, y, e1, e2, _⟩ := tsa j T h1
      have lj := (List.getElem?_eq_some_iff.mp h2).1
      exact ⟨t, y, paired_at rv h2 e1, by rw [Nat.zero_add]; exact e2⟩
    have hx : ∀ b u, H b = some u → layT H 0 (acc.toList.map tgt) xs b = some u := fun b u z => by
      rw [layT_out fun hb => by rw [fr b (by have := big b hb; omega)] at z; cases z]; exact z
    have vals : Vals ((acc.toList.map tgt).map V.ref) acc.toList := by
      have e : acc.toList = (acc.toList.map tgt).map Value.ref := by
        refine List.ext_getElem? fun j => ?_
        rw [List.getElem?_map]
        cases z : (acc.toList.map tgt)[j]? with
        | some T => rw [(tsa j T z).1]; rfl
        | none =>
          have l := List.getElem?_eq_none_iff.mp z
          rw [List.length_map] at l
          rw [List.getElem?_eq_none l]; rfl
      have key : ∀ ts : List Addr, Vals (ts.map V.ref) (ts.map Value.ref) := fun ts => by
        induction ts with
        | nil => exact .nil
        | cons T ts ih => exact .cons rfl ih
      have z := key (acc.toList.map tgt)
      rw [← e] at z
      exact z
    have okS : HOk X.prog X.w (upd (layT H 0 (acc.toList.map tgt) xs) h1.objs.size (.lst ((acc.toList.map tgt).map V.ref))) h' := fun b u e => by
      by_cases hb : b = h1.objs.size
      · subst hb
        rw [upd_same] at e
        cases e
        exact ⟨by rw [List.length_map, tsl]; exact hz, acc.toList, c, vals, by rw [hS]⟩
      · rw [upd_ne hb] at e
        exact (okT b u e).stay (fun _ _ _ z => z) (fun d z => (upd_ne (ne_of_none z hSn)).trans z) fun d xs z => (upd_ne (ne_of_none z hSn)).trans z
    show EP X pins σ Q _ { s1 with heap := h', toks := t }
    refine ⟨.ref h1.objs.size, _, inv_many (t' := t) I keep (fun b u z => ?_) (fun b lt z => ?_) okS, rfl, q _ _ _ ⟨by rw [List.length_map, tsl], hx, fun j x hj => ?_⟩ hSn⟩
    · rw [upd_ne (ne_of_none (hx b u z) hSn)]; exact hx b u z
    · have lt2 : b < h1.objs.size := by rw [hz1]; exact Nat.lt_add_right 2 lt
      rw [upd_ne (Nat.ne_of_lt lt2), layT_out fun hb => Nat.lt_asymm lt2 (big b hb)]; exact z
    · have lj := (List.getElem?_eq_some_iff.mp hj).1
      have e := List.getElem?_eq_getElem (show j < (acc.toList.map tgt).length by omega)
      refine ⟨_, by rw [List.getElem?_map, e]; rfl, ?_⟩
      have := layT_at (H := H) (k := 0) nd e hj
      rw [Nat.zero_add] at this
      exact this
end
section
variable {X : Cx} {e : Expr} {te : TE} {p p2 pos pos2 : Pos}
def tLen (K : PySem.W.Frag) (te : TE) : TE := fun σ H Q => te σ H fun v H1 => ∃ (a : Addr) (xs : List V), v = .ref a ∧ (SqL K H1 a xs ∨ SqT K H1 a xs) ∧ ∀ H2 ps q, Pairs H1 H2 xs ps → H2 q = none → Q (.ref q) (upd H2 q (.lst ps))
theorem pe_len (hc : X.calm = true) (hg : Gl X "list") (hm : X.mg "list" = none) (hg2 : Gl X "enumerate") (hm2 : X.mg "enumerate" = none) (he : PE X e te) (hs : starEach [e] X.env = (false, eval e X.env) :: starEach [] X.env)
    (hs2 : starEach [.Call (.Name "enumerate" p2) [e] [] pos2] X.env = (false, eval (.Call (.Name "enumerate" p2) [e] [] pos2) X.env) :: starEach [] X.env := by rfl) :
    PE X (.Call (.Name "list" p) [.Call (.Name "enumerate" p2) [e] [] pos2] [] pos) (tLen X.K te) := by
  refine ⟨fun pins s σ H Q I h => ?_⟩
  refine Call_ (ld_blt I hg hm (by decide +kernel : bootBuiltins "list" = some (.type "list")) (PyProof.Rows.callWith_type1 (args_cons (Call_ (ld_blt I hg2 hm2 boot_enumerate (PyProof.Rows.callWith_type1 (args_cons (thn (he.run pins s σ H _ I h) fun u s1 ⟨v, H1, I1, r1, q1⟩ => args_nil ?_) hs) hs rfl))) hs2) hs2 rfl))
  obtain ⟨a, xs, ev, hq, q⟩ := q1
  subst ev
  obtain rfl : u = Value.ref a := r1
  have hd := I1.ok.hd hc
  rcases hq with hq | hq
  · obtain ⟨its, rv, p', hz⟩ := I1.list hq
    have hl := p'.isList
    have la : a < s1.heap.objs.size := let ⟨_, ho, _⟩ := hl; Heap.lt_size ho
    exact thn (len_core hc I1 rv hz (begins_list a its.toArray) hl la (fun A hA => Draws.list hA _ a (Nat.ne_of_lt la) its.toArray) (fun h' g k => ⟨⟨_, g, rfl, rfl⟩, hl.at fun o z => k a o z⟩) q) fun u s2 z => args_nil z
  · obtain ⟨its, rv, p', hz⟩ := I1.tuple hq
    have hl : s1.heap.IsTuple a its.toArray := p'
    have la : a < s1.heap.objs.size := let ⟨_, ho, _⟩ := hl; Heap.lt_size ho
    exact thn (len_core hc I1 rv hz (begins_tuple a its.toArray) hl la (fun A hA => Draws.tuple hA _ a (Nat.ne_of_lt la) its.toArray) (fun h' g k => ⟨⟨_, g, rfl, rfl⟩, hl.at fun o z => k a o z⟩) q) fun u s2 z => args_nil z
end
section
variable {K : PySem.W.Frag} {w : World} {s : Sx} {μ : Sto} {H2 : Hp}
theorem ev_more (W : Wd K w s μ) (hx : ∀ b u, s.H b = some u → H2 b = some u) : Ev s ⟨H2, s.O, s.ι⟩ ∧ Wd K w ⟨H2, s.O, s.ι⟩ μ := by
  have ev : Ev s ⟨H2, s.O, s.ι⟩ := ⟨fun a u h _ => hx a u h, ⟨[], by simp, fun _ z => nomatch z⟩, fun _ h => h, fun _ h => .inl h, fun a h => by
    cases e : s.H a with
    | none => rfl
    | some u => exact absurd ((hx a u e).symm.trans h) (by simp)⟩
  refine ⟨ev, fun a h => ?_, W.sub, W.nd, W.len, fun n a ds h1 h2 => ?_⟩
  · have m := W.mt a h
    show Mut (H2 a)
    cases e : s.H a with
    | none => rw [e] at m; exact m.elim
    | some u => rw [hx a u e]; rw [e] at m; exact m
  · obtain ⟨vs, h3, h4⟩ := W.at_ n a ds h1 h2
    exact ⟨vs, hx a _ h3, ev.repL W h4⟩
theorem num_rep : ∀ {ds : List D} {vs ps : List V} {k : Nat}, RepL K w s ds vs [] → ps.length = vs.length → (∀ (j : Nat) (x : V), vs[j]? = some x → ∃ T, ps[j]? = some (.ref T) ∧ s.H T = some (.tup [.int ((k + j : Nat) : Int), x])) → RepL K w s (num k ds) ps []
  | [], vs, ps, k, r, hl, hp => by
    obtain ⟨rfl, _⟩ := r
    exact ⟨List.eq_nil_of_length_eq_zero hl, rfl⟩
  | d :: ds, vs, ps, k, r, hl, hp => by
    obtain ⟨v, vs', rfl, r1, r2⟩ := r.cons_of
    obtain ⟨T, e1, e2⟩ := hp 0 v rfl
    cases ps with
    | nil => cases hl
    | cons p ps =>
      cases e1
      refine RepL.cons ⟨T, [.int ((k : Nat) : Int), v], rfl, .of e2, RepL.cons ⟨rfl, rfl⟩ (RepL.cons r1 ⟨rfl, rfl⟩)⟩ (num_rep (k := k + 1) r2 (by simpa using hl) fun j x hj => ?_)
      obtain ⟨T2, e3, e4⟩ := hp (j + 1) x hj
      exact ⟨T2, e3, by rw [show k + 1 + j = k + (j + 1) by omega]; exact e4⟩
end
section
variable {C : Ctx} {a : Expr} {p pos : Pos}
theorem ok_lenum {f : Env → M D} {p2 pos2 : Pos} (hc : C.X.calm = true) (hg : Gl C.X "list") (hm : C.X.mg "list" = none) (hg2 : Gl C.X "enumerate") (hm2 : C.X.mg "enumerate" = none) (ha : OkB C a f) (hs : notStar a = true) :
    OkE C (.Call (.Name "list" p) [.Call (.Name "enumerate" p2) [a] [] pos2] [] pos) (fun ρ => M.bind (f ρ) (bltD .lenum)) :=
  PE_imp (pe_len hc hg hm hg2 hm2 ha (notStar_ok hs [] _)) fun σ H Q ⟨s, ρ, own, μ, e1, p, q⟩ => ⟨s, ρ, own, μ, e1, p, q.bind.mono fun x μ1 h1 v s1 p1 => by
    have fin : ∀ (ds : List D) (vs : List V), ResG C σ (M.ret (D.lst true (num 0 ds)) μ1) (fun d μ' => ∀ v s' o, Post C.K C.w s s' μ' d v o → Q v s'.H) → RepL C.K C.w s1 ds vs [] → ∀ H2 ps q, Pairs s1.H H2 vs ps → H2 q = none → Q (.ref q) (upd H2 q (.lst ps)) := fun ds vs h r H2 ps q ⟨hl, hx, hp⟩ hn => by
      obtain ⟨ev, wd⟩ := ev_more p1.wd hx
      exact h.ret (.ref q) (Sx.own ⟨H2, s1.O, s1.ι⟩ q (.lst ps)) [q] (Post.newL (p1.ev.trans ev) wd (num_rep (k := 0) (ev.repL p1.wd r) hl fun j x hj => by rw [Nat.zero_add]; exact hp j x hj) List.nodup_nil (fun _ z => nomatch z) hn)
    cases x with
    | lst b ds =>
      obtain ⟨a, vs, ev, hq, r⟩ := p1.rep
      exact ⟨a, vs, ev, .inl hq.sq, fin ds vs h1 r⟩
    | tup ds =>
      obtain ⟨a, vs, ev, hq, r⟩ := p1.rep
      exact ⟨a, vs, ev, .inr hq, fin ds vs h1 r⟩
    | _ => exact h1.elim⟩
end
end Vf

/-! V10 -/
set_option autoImplicit false
set_option linter.all false
set_option Elab.async false
set_option maxHeartbeats 1000000
/-! V10: statements. -/
namespace Vf
open PySem PySem.Spec PyProof.Rows L2

/-- what is wanted behind a statement -/
def FlP (C : Ctx) (D : Ends) (s : Sx) : Fl → Sto → Prop
  | .nx ρ', μ' => ∀ σ' own' s', Pre C s' ρ' σ' own' μ' → Go s s' → D.nx σ' s'.H
  | .brk ρ', μ' => ∀ σ' own' s', Pre C s' ρ' σ' own' μ' → Go s s' → D.bk σ' s'.H
  | .cont ρ', μ' => ∀ σ' own' s', Pre C s' ρ' σ' own' μ' → Go s s' → D.ct σ' s'.H
  | .rt d, μ' => ∀ v s' o, Post C.K C.w C.s0 s' μ' d v o → D.rt v s'.H
def tS (C : Ctx) (f : Env → M Fl) : TS := fun D σ H => ∃ s ρ own μ, s.H = H ∧ Pre C s ρ σ own μ ∧ ResG C σ (f ρ μ) (FlP C D s)
abbrev OkS (C : Ctx) (e : Stmt) (f : Env → M Fl) : Prop := PS C.X e (tS C f)
abbrev OkSs (C : Ctx) (e : List Stmt) (f : Env → M Fl) : Prop := PSs C.X e (tS C f)
/-- what is let out does not ask the slots -/
def WI (C : Ctx) : Prop := ∀ c d σ σ' h, C.W c d σ h → C.W c d σ' h
theorem ResG.sig {α : Type} {C : Ctx} (hW : WI C) {σ σ' : L2.St} {r : R α} {F : α → Sto → Prop} (h : ResG C σ r F) : ResG C σ' r F := by
  cases r with
  | ok a μ => exact h
  | exc c fs μ => exact fun s' Cl dd a b c => hW _ _ _ _ _ (h s' Cl dd a b c)
  | bad => exact h
theorem FlP.tr {C : Ctx} {D : Ends} {s s' : Sx} {fl : Fl} {μ : Sto} (h : FlP C D s fl μ) (g : Go s s') : FlP C D s' fl μ := by
  cases fl with
  | nx ρ => exact fun σ' own' s2 p g2 => h σ' own' s2 p (g.trans g2)
  | brk ρ => exact fun σ' own' s2 p g2 => h σ' own' s2 p (g.trans g2)
  | cont ρ => exact fun σ' own' s2 p g2 => h σ' own' s2 p (g.trans g2)
  | rt d => exact h
section
variable {C : Ctx} {st : Stmt} {sts : List Stmt} {e a b : Expr} {f g : Env → M D} {fs gs : Env → M Fl} {pos : Pos}
theorem ok_ssnil : OkSs C [] (fun ρ => M.ret (.nx ρ)) := PSs_imp pss_nil fun D σ H ⟨s, ρ, own, μ, e1, p, q⟩ => by
  show D.nx σ H
  rw [← e1]
  exact q.ret σ own s p (Go.refl p.wd)
def seqK (f g : Env → M Fl) : Env → M Fl := fun ρ => M.bind (f ρ) fun
    | .nx ρ' => g ρ'
    | f => M.ret f
theorem ok_sscons (hW : WI C) (h1 : OkS C st fs) (h2 : OkSs C sts gs) : OkSs C (st :: sts) (seqK fs gs) :=
  PSs_imp (pss_cons h1 h2) fun D σ H ⟨s, ρ, own, μ, e1, p, q⟩ => ⟨s, ρ, own, μ, e1, p, q.bind.mono fun fl μ1 h1 => by
    cases fl with
    | nx ρ' => exact fun σ' own' s' p' g' => ⟨s', ρ', own', μ1, rfl, p', (ResG.sig hW h1).mono fun fl μ2 h2 => h2.tr g'⟩
    | brk ρ' => exact h1.ret
    | cont ρ' => exact h1.ret
    | rt d => exact h1.ret⟩
/-- one statement's pseudo work ahead of the others -/
theorem ok_sspre {pre : Env → M Fl} (hp : ∀ s ρ σ own μ F, Pre C s ρ σ own μ → ResG C σ (pre ρ μ) F → ∃ s' ρ' own', s'.H = s.H ∧ Pre C s' ρ' σ own' μ ∧ Go s s' ∧ F (.nx ρ') μ) (h2 : OkSs C sts gs) : OkSs C sts (seqK pre gs) :=
  PSs_imp h2 fun D σ H ⟨s, ρ, own, μ, e1, p, q⟩ => by
    obtain ⟨s', ρ', own', e2, p', g', q'⟩ := hp s ρ σ own μ _ p q.bind
    exact ⟨s', ρ', own', μ, e2.trans e1, p', ResG.mono q' fun fl μ2 h2 => h2.tr g'⟩
theorem ok_pass : OkS C (.Pass pos) (fun ρ => M.ret (.nx ρ)) := PS_imp ps_pass fun D σ H ⟨s, ρ, own, μ, e1, p, q⟩ => by
  show D.nx σ H
  rw [← e1]
  exact q.ret σ own s p (Go.refl p.wd)
theorem ok_break : OkS C (.Break pos) (fun ρ => M.ret (.brk ρ)) := PS_imp ps_break fun D σ H ⟨s, ρ, own, μ, e1, p, q⟩ => by
  show D.bk σ H
  rw [← e1]
  exact q.ret σ own s p (Go.refl p.wd)
theorem ok_continue : OkS C (.Continue pos) (fun ρ => M.ret (.cont ρ)) := PS_imp ps_continue fun D σ H ⟨s, ρ, own, μ, e1, p, q⟩ => by
  show D.ct σ H
  rw [← e1]
  exact q.ret σ own s p (Go.refl p.wd)
def notComp : Expr → Bool
  | .ListComp .. => false
  | .SetComp .. => false
  | .DictComp .. => false
  | _ => true
theorem notComp_sw {e : Expr} (h : notComp e = true) (t : Option Expr) (l : Nat) (env : PySem.Env) : swapsWith e t l env = pure false := by
  cases e <;> first | rfl | cases h
theorem ok_expr (h : OkE C e f) (hs : notComp e = true) : OkS C (.Expr e pos) (fun ρ => M.bind (f ρ) fun _ => M.ret (.nx ρ)) :=
  PS_imp (ps_expr h (notComp_sw hs _ _ _)) fun D σ H ⟨s, ρ, own, μ, e1, p, q⟩ => ⟨s, ρ, own, μ, e1, p, q.bind.mono fun d μ1 h1 v s1 o po => h1.ret σ own s1 (p.step po.ev po.wd) (po.ev.go p.wd)⟩
theorem ok_doc {x : Str} {j : Nat} {pos' : Pos} : OkS C (.Expr (.Constant (.str x) j pos) pos') (fun ρ => M.ret (.nx ρ)) := PS_imp ps_doc fun D σ H ⟨s, ρ, own, μ, e1, p, q⟩ => by
  show D.nx σ H
  rw [← e1]
  exact q.ret σ own s p (Go.refl p.wd)
theorem ok_ret (h : OkE C e f) : OkS C (.Return (some e) pos) (fun ρ => M.bind (f ρ) fun d => M.ret (.rt d)) :=
  PS_imp (ps_ret h) fun D σ H ⟨s, ρ, own, μ, e1, p, q⟩ => ⟨s, ρ, own, μ, e1, p, q.bind.mono fun d μ1 h1 v s1 o po => h1.ret v s1 o (po.tr p.ev)⟩
theorem ok_retN : OkS C (.Return none pos) (fun _ => M.ret (.rt .non)) := PS_imp ps_retN fun D σ H ⟨s, ρ, own, μ, e1, p, q⟩ => by
  show D.rt .non H
  rw [← e1]
  exact q.ret .non s [] (Post.scal p.ev p.wd ⟨rfl, rfl⟩)
theorem ok_retMv {i : Nat} {x : Str} {pos' : Pos} (hN : C.X.N[i]? = some x) (hv : Vis C.X.env.scope x) (hd : (x == ("__debug__" : Str)) = false) (hc : (x == ("__classdict__" : Str)) = false) :
    OkS C (.Return (some (.Name x pos)) pos') (fun ρ => match ρ[i]? with
    | some (some d) => guard' (!d.isX) (M.ret (.rt d))
    | _ => M.bad) := PS_imp (ps_ret (pe_var hN hv hd hc)) fun D σ H ⟨s, ρ, own, μ, e1, p, q⟩ => by
  cases h : ρ[i]? with
  | none => simp only [h] at q; exact q.elim
  | some od =>
    cases od with
    | none => simp only [h] at q; exact q.elim
    | some d =>
      simp only [h] at q
      obtain ⟨n, q⟩ := q.guard
      obtain ⟨v, hv, r⟩ := p.r.at_ i d h
      have r := r.rep fun c fs e => by rw [e] at n; cases n
      refine ⟨v, hv, ?_⟩
      rw [← e1]
      exact q.ret v s (own i) ⟨p.ev, p.wd, r, p.r.nd i, fun a ha => ⟨(p.r.ow i a ha).1, p.fr i a ha, (p.r.ow i a ha).2⟩⟩
theorem ok_if {c : Expr} {as bs : List Stmt} {t : Env → M Bool} (hc : OkT C c t) (ha : OkSs C as fs) (hb : OkSs C bs gs) : OkS C (.If c as bs pos) (fun ρ => M.bind (t ρ) fun | true => fs ρ | false => gs ρ) :=
  PS_imp (ps_if hc ha hb) fun D σ H ⟨s, ρ, own, μ, e1, p, q⟩ => ⟨s, ρ, own, μ, e1, p, q.bind.mono fun k μ1 h1 s1 ev wd => by
    cases k with
    | true => exact ⟨s1, ρ, own, μ1, rfl, p.step ev wd, ResG.mono h1 fun fl μ2 h2 => h2.tr (ev.go p.wd)⟩
    | false => exact ⟨s1, ρ, own, μ1, rfl, p.step ev wd, ResG.mono h1 fun fl μ2 h2 => h2.tr (ev.go p.wd)⟩⟩
/-! assignments -/
def frD (fr : Bool) (d : D) : D := match fr with | true => d.fz | false => d
def setK (fr : Bool) (t : T) (f : Env → M D) : Env → M Fl := fun ρ => M.bind (f ρ) fun d => match asg t (frD fr d) ρ with
    | some ρ' => M.ret (.nx ρ')
    | none => M.bad
def noSwap : Expr → Expr → Bool
  | .Tuple .., .Tuple .. => false
  | .List .., .Tuple .. => false
  | _, _ => true
theorem noSwap_ok {t e : Expr} (h : noSwap t e = true) (env : PySem.Env) : swappedStores [t] e env = pure none := by
  cases t <;> first | rfl | (cases e <;> first | rfl | cases h)
theorem rd_set {fr : Bool} {t : T} {D : Ends} {σ : L2.St} {H : Hp} (h : tS C (setK fr t f) D σ H) : tD C f σ H fun x H1 => tG C t x σ H1 D.nx := by
  obtain ⟨s, ρ, own, μ, e1, p, q⟩ := h
  refine ⟨s, ρ, own, μ, e1, p, q.bind.mono fun d μ1 h1 v s1 o po => ?_⟩
  cases ea : asg t (frD fr d) ρ with
  | none => simp only [ea] at h1; exact h1.elim
  | some ρ' =>
    simp only [ea] at h1
    cases fr with
    | false => exact ⟨s1, ρ, own, μ1, d, o, ρ', rfl, p.step po.ev po.wd, po.rep, po.frs p, ea, fun σ' own' p' _ _ => h1.ret σ' own' s1 p' (po.ev.go p.wd)⟩
    | true =>
      obtain ⟨ev, wd, r⟩ := po.fzn
      exact ⟨s1.less o, ρ, own, μ1, d.fz, [], ρ', rfl, p.step ev wd, r, Frs.nil, ea, fun σ' own' p' _ _ => h1.ret σ' own' (s1.less o) p' (ev.go p.wd)⟩
theorem ok_set {fr : Bool} {tg : Expr} {t : T} (h : OkE C e f) (hg : OkG C tg t) (hs : notComp e = true) (hw : noSwap tg e = true) (hst : notStar tg = true) : OkS C (.Assign [tg] e pos) (setK fr t f) :=
  PS_imp (ps_asg h hg (notComp_sw hs _ _ _) (noSwap_ok hw _) (by rw [asgEach_ok hst]; rfl)) fun D σ H q => rd_set q
theorem sw_cell {elt : Expr} {gs : List Comprehension} {scope : Scope} {pos py : Pos} {y : Str} {l : Nat} {env : PySem.Env} (hy : env.scope.names.lookup y = some .cell) : swapsWith (.ListComp elt gs scope pos) (some (.Name y py)) l env = pure false := by
  have ky : env.kindOf y = some .cell := hy
  unfold swapsWith
  simp only [ky]
  cases (env.blockKind == ScopeKind.function) <;> rfl
theorem ok_setCell {fr : Bool} {y : Str} {py : Pos} {elt : Expr} {gs : List Comprehension} {scope : Scope} {p : Pos} {t : T} (h : OkE C (.ListComp elt gs scope p) f) (hg : OkG C (.Name y py) t) (hy : C.X.env.scope.names.lookup y = some .cell) : OkS C (.Assign [.Name y py] (.ListComp elt gs scope p) pos) (setK fr t f) :=
  PS_imp (ps_asg (pos := pos) h hg (sw_cell (l := pos.line) hy) (noSwap_ok rfl _) (by rw [asgEach_ok rfl]; rfl)) fun D σ H q => rd_set q
/-- name = [..] -/
theorem tG_nm {i : Nat} {v : V} {σ : L2.St} {H : Hp} {Q : L2.St → Hp → Prop} (h : tG C (.nm i) v σ H Q) : Q (σ.set i (some v)) H := by
  obtain ⟨s, ρ, own, μ, d, o, ρ', e1, p, r, f, ea, k⟩ := h
  have ea : (if i < ρ.length then some (ρ.set i (some d)) else none) = some ρ' := ea
  by_cases hl : i < ρ.length
  · rw [if_pos hl] at ea
    cases ea
    rw [← e1]
    exact k _ _ (p.set hl r f) (fun j a h => by
        by_cases e : j = i
        · simp only [if_pos e] at h; exact .inr h
        · simp only [if_neg e] at h; exact .inl ⟨j, h⟩) SameOut.set
  · rw [if_neg hl] at ea; cases ea
theorem tD_mono {σ : L2.St} {H : Hp} {Q Q' : VK} (h : tD C f σ H Q) (k : ∀ v H, Q v H → Q' v H) : tD C f σ H Q' := by
  obtain ⟨s, ρ, own, μ, e1, p, q⟩ := h
  exact ⟨s, ρ, own, μ, e1, p, q.mono fun d μ' h v s' o po => k _ _ (h v s' o po)⟩
theorem rd_setN {fr : Bool} {i : Nat} {D : Ends} {σ : L2.St} {H : Hp} (h : tS C (setK fr (.nm i) f) D σ H) : tD C f σ H fun x H1 => gName i x σ H1 D.nx :=
  tD_mono (rd_set h) fun v H1 h1 => tG_nm h1
end
section
variable {C : Ctx} {elt tg iter tg1 iter1 : Expr} {ifs : List Expr} {scope : Scope} {own : List (Str × Nat)} {pos spos py : Pos} {fi fi2 : Env → M (List D)} {t t2 : T} {fc : Env → M Bool} {fe : Env → M D} {i : Nat} {y : Str} {fr : Bool}
theorem ok_setLc (hc : C.X.calm = true) (hN : C.X.N.Nodup) (hy : C.X.N[i]? = some y) (hyl : C.X.env.scope.names.lookup y = some .local) (hk : C.X.env.scope.kind = .function) (hl : (py.line == pos.line) = true)
    (ha : (scope.names.any fun (n, k) => n == y && (k == .local || k == .cell)) = false) (hi : OkI C tg iter fi) (ok : BlkOk C.X.N C.X.env.scope scope own) (ho : own.map (·.2) = t.ix)
    (hg : ∀ s H a cl fp, OkG (C.blk s H scope (compEnvC scope cl a C.X.env) fp) tg t) (ht : ∀ s H a cl fp, OkTs (C.blk s H scope (compEnvC scope cl a C.X.env) fp) ifs fc)
    (he : ∀ s H a cl fp, OkE (C.blk s H scope (compEnvC scope cl a C.X.env) fp) elt fe) (hs : notSetI iter = true) : OkS C (.Assign [.Name y py] (.ListComp elt [⟨tg, iter, ifs, 0⟩] scope pos) spos) (setK fr (.nm i) (lcK fi t fc fe)) :=
  PS_imp (ps_setLc hc hN hy hyl (sw_true hk hyl hl ha) hi ok (fun s H a cl fp => blkG (hg s H a cl fp)) (fun s H a cl fp => blkTs (ht s H a cl fp)) (fun s H a cl fp => blkE (he s H a cl fp)) (notSetI_ok hs _)) fun D σ H q => by
    rw [ho]; exact rd_lc (rd_setN q)
theorem ok_setLc2 (hc : C.X.calm = true) (hN : C.X.N.Nodup) (hy : C.X.N[i]? = some y) (hyl : C.X.env.scope.names.lookup y = some .local) (hk : C.X.env.scope.kind = .function) (hl : (py.line == pos.line) = true)
    (ha : (scope.names.any fun (n, k) => n == y && (k == .local || k == .cell)) = false) (hi : OkI C tg iter fi) (ok : BlkOk C.X.N C.X.env.scope scope own) (ho : own.map (·.2) = t.ix ++ t2.ix)
    (hg : ∀ s H a cl fp, OkG (C.blk s H scope (compEnvC scope cl a C.X.env) fp) tg t) (hi1 : ∀ s H a cl fp, OkI (C.blk s H scope (compEnvC scope cl a C.X.env) fp) tg1 iter1 fi2)
    (hg1 : ∀ s H a cl fp, OkG (C.blk s H scope (compEnvC scope cl a C.X.env) fp) tg1 t2) (ht : ∀ s H a cl fp, OkTs (C.blk s H scope (compEnvC scope cl a C.X.env) fp) ifs fc)
    (he : ∀ s H a cl fp, OkE (C.blk s H scope (compEnvC scope cl a C.X.env) fp) elt fe) (hs : notSetI iter = true) (hs1 : notSetI iter1 = true) :
    OkS C (.Assign [.Name y py] (.ListComp elt [⟨tg, iter, [], 0⟩, ⟨tg1, iter1, ifs, 0⟩] scope pos) spos) (setK fr (.nm i) (lc2K fi t fi2 t2 fc fe)) :=
  PS_imp (ps_setLc2 (vs1 := t2.ix) hc hN hy hyl (sw_true hk hyl hl ha) hi ok (fun i h => by rw [ho]; exact List.mem_append_right _ h) (fun s H a cl fp => blkG (hg s H a cl fp)) (fun s H a cl fp => blkTs ok_tsnil) (fun s H a cl fp => blkI (hi1 s H a cl fp)) (fun s H a cl fp => blkG (hg1 s H a cl fp)) (fun s H a cl fp => blkTs (ht s H a cl fp)) (fun s H a cl fp => blkE (he s H a cl fp)) (notSetI_ok hs _) (fun env => notSetI_ok hs1 env)) fun D σ H q => by
    rw [ho]; exact rd_lc2 (rd_setN q)
end
/-! name op= e -/
section
variable {C : Ctx} {e a b : Expr} {f g : Env → M D} {pos pos' : Pos} {i : Nat} {x : Str}
theorem augD_ok {op : Bop} {x y : D} {μ : Sto} {σ : L2.St} {F : D → Sto → Prop} (h : ResG C σ (augD op x y μ) F) : ∃ i j, x = .int i ∧ y = .int j ∧ ((op = .add ∧ F (.int (i + j)) μ) ∨ (op = .sub ∧ F (.int (i - j)) μ)) := by
  cases op with
  | add =>
    cases x with
    | int i =>
      cases y with
      | int j => exact ⟨i, j, rfl, rfl, .inl ⟨rfl, h⟩⟩
      | _ => exact h.elim
    | _ => exact h.elim
  | sub =>
    cases x with
    | int i =>
      cases y with
      | int j => exact ⟨i, j, rfl, rfl, .inr ⟨rfl, h⟩⟩
      | _ => exact h.elim
    | _ => exact h.elim
  | _ => exact h.elim
def augK (i : Nat) (op : Bop) (f : Env → M D) : Env → M Fl := fun ρ => match ρ[i]? with
    | some (some x) => M.bind (f ρ) fun y => M.bind (augD op x y) fun z => M.ret (.nx (ρ.set i (some z)))
    | _ => M.bad
def augOp : Bop → Operator
  | .sub => .Sub
  | _ => .Add
def augI : Bop → Int → Int → Int
  | .sub, i, j => i - j
  | _, i, j => i + j
theorem ip_aug {X : Cx} (op : Bop) : PIp X (augOp op) (ipI (augI op)) := by
  cases op <;> first | exact ip_add | exact ip_sub
theorem rd_aug {op : Bop} {D : Ends} {σ : L2.St} {H : Hp} (q : tS C (augK i op f) D σ H) : tAug i (tD C f) (ipI (augI op)) D σ H := by
  obtain ⟨s, ρ, own, μ, e1, p, q⟩ := q
  unfold augK at q
  cases h : ρ[i]? with
  | none => simp only [h] at q; exact q.elim
  | some od =>
    cases od with
    | none => simp only [h] at q; exact q.elim
    | some d =>
      simp only [h] at q
      obtain ⟨v, hv, r⟩ := p.r.at_ i d h
      have hl : i < ρ.length := (List.getElem?_eq_some_iff.mp h).1
      refine ⟨v, hv, s, ρ, own, μ, e1, p, q.bind.mono fun y μ1 h1 vy s1 o po => ?_⟩
      obtain ⟨a, b, ex, ey, hF⟩ := augD_ok h1.bind
      subst ex ey
      have key : ∀ z : Int, FlP C D s (.nx (ρ.set i (some (.int z)))) μ1 → D.nx (σ.set i (some (.int z))) s1.H := fun z hz =>
        hz _ _ s1 ((p.step po.ev po.wd).set hl (d := .int z) (v := .int z) (o := []) ⟨rfl, rfl⟩ Frs.nil) (po.ev.go p.wd)
      refine ⟨a, b, r.1, po.rep.1, ?_⟩
      rcases hF with ⟨rfl, hF⟩ | ⟨rfl, hF⟩
      · exact key _ hF.ret
      · exact key _ hF.ret
theorem ok_aug {op : Bop} (hN : C.X.N.Nodup) (hi : C.X.N[i]? = some x) (hx : Loc C.X.env.scope x) (hf : C.X.fn x = true ∨ C.X.env.scope.names.lookup x = some .local) (h : OkE C e f) : OkS C (.AugAssign (.Name x pos') (augOp op) e pos) (augK i op f) :=
  PS_imp (ps_aug hN hi hx h (ip_aug op) hf) fun D σ H q => rd_aug q
end
/-! while, for -/
section
variable {C : Ctx} {c tg iter : Expr} {body : List Stmt} {pos : Pos} {t : Env → M Bool} {fb : Env → M Fl} {fi : Env → M (List D)} {tt : T}
theorem ok_while (hW : WI C) (hp : PassesOwn (model C.X.prog C.X.w) C.X.A C.X.env C.X.xe) (hc : OkT C c t) (hb : OkSs C body fb) : OkS C (.While c body [] pos) (fun ρ => whl t fb WF ρ) :=
  PS_imp (ps_while hp hc hb) fun D σ H ⟨s, ρ, own, μ, e1, p, q⟩ => by
    refine ⟨fun n σ1 H1 => ∃ s1 ρ1 own1 μ1, s1.H = H1 ∧ Pre C s1 ρ1 σ1 own1 μ1 ∧ Go s s1 ∧ ResG C σ1 (whl t fb n ρ1 μ1) (FlP C D s), ⟨WF, s, ρ, own, μ, e1, p, Go.refl p.wd, q⟩, ?_⟩
    rintro n σ1 H1 ⟨s1, ρ1, own1, μ1, rfl, p1, g1, q1⟩
    cases n with
    | zero => exact q1.elim
    | succ n =>
      have q1 : ResG C σ1 (M.bind (t ρ1) (fun
        | false => M.ret (.nx ρ1)
        | true => M.bind (fb ρ1) fun
          | .nx ρ' => whl t fb n ρ'
          | .cont ρ' => whl t fb n ρ'
          | .brk ρ' => M.ret (.nx ρ')
          | .rt d => M.ret (.rt d)) μ1) (FlP C D s) := q1
      refine ⟨s1, ρ1, own1, μ1, rfl, p1, q1.bind.mono fun b μ2 h2 s2 ev wd => ?_⟩
      have p2 := p1.step ev wd
      have g2 := g1.trans (ev.go p1.wd)
      cases b with
      | false =>
        dsimp only
        rw [if_neg Bool.false_ne_true]
        exact ResG.ret (C := C) (σ := σ1) h2 σ1 own1 s2 p2 g2
      | true =>
        dsimp only
        rw [if_pos rfl]
        refine ⟨fun σ3 H3 => ∃ s3 ρ3 own3 μ3, s3.H = H3 ∧ Pre C s3 ρ3 σ3 own3 μ3 ∧ Go s s3 ∧ ResG C σ3 (whl t fb n ρ3 μ3) (FlP C D s), fun σ3 H3 h => ⟨n, Nat.lt_succ_self n, h⟩, s2, ρ1, own1, μ2, rfl, p2, (show ResG C σ1 (M.bind (fb ρ1) _ μ2) _ from h2).bind.mono fun fl μ3 h3 => ?_⟩
        cases fl with
        | nx ρ' => exact fun σ3 own3 s3 p3 g3 => ⟨s3, ρ', own3, μ3, rfl, p3, g2.trans g3, ResG.sig hW h3⟩
        | cont ρ' => exact fun σ3 own3 s3 p3 g3 => ⟨s3, ρ', own3, μ3, rfl, p3, g2.trans g3, ResG.sig hW h3⟩
        | brk ρ' => exact fun σ3 own3 s3 p3 g3 => h3.ret σ3 own3 s3 p3 (g2.trans g3)
        | rt d => exact h3.ret
def forK (fi : Env → M (List D)) (tt : T) (fb : Env → M Fl) : Env → M Fl := fun ρ => M.bind (fi ρ) fun xs => forL (fun x ρ => match asg tt x ρ with
      | some ρ' => fb ρ'
      | none => M.bad) xs ρ
theorem ok_for (hW : WI C) (hp : PassesOwn (model C.X.prog C.X.w) C.X.A C.X.env C.X.xe) (hc : C.X.calm = true) (hi : OkI C tg iter fi) (hg : OkG C tg tt) (hb : OkSs C body fb) (hs : notSetI iter = true) : OkS C (.For tg iter body [] pos) (forK fi tt fb) :=
  PS_imp (ps_for hp hc hi hg hb (notSetI_ok hs _)) fun D σ H ⟨s, ρ, own, μ, e1, p, q⟩ => by
    refine ⟨s, ρ, own, μ, e1, p, q.bind.mono fun xs μ1 h1 J s1 ev wd wk => ?_⟩
    have p1 := p.step ev wd
    obtain ⟨G, Y, wlk, hG, hY⟩ := wk
    refine for_it wlk (fun i σi Hi => ∃ si ρi owni μi, si.H = Hi ∧ Pre C si ρi σi owni μi ∧ Go s1 si ∧ ResG C σi (forL (fun x ρ => match asg tt x ρ with
      | some ρ' => fb ρ'
      | none => M.bad) (xs.drop i) ρi μi) (FlP C D s)) ⟨s1, ρ, own, μ1, rfl, p1, Go.refl wd, by simpa using h1⟩ (fun i σi Hi _ ⟨si, ρi, owni, μi, e, pi, g, _⟩ => e ▸ hG si g) (fun i x σi Hi H' hi ⟨si, ρi, owni, μi, e, pi, g, qi⟩ y => ?_) (fun σi Hi ⟨si, ρi, owni, μi, e, pi, g, qi⟩ => ?_)
    · subst e
      obtain ⟨s3, d, eH', ev3, wd3, hxi, r⟩ := hY i si μi x H' hi g pi.wd y
      have edrop : xs.drop i = d :: xs.drop (i + 1) := by
        have e2 : xs[i] = d := by rw [List.getElem?_eq_getElem hi] at hxi; exact Option.some.inj hxi
        rw [List.drop_eq_getElem_cons hi, e2]
      rw [edrop] at qi
      have qi := (show ResG C σi (M.bind (match asg tt d ρi with
        | some ρ' => fb ρ'
        | none => M.bad) _ μi) _ from qi).bind
      cases ea : asg tt d ρi with
      | none => simp only [ea] at qi; exact qi.elim
      | some ρ' =>
        simp only [ea] at qi
        have p3 := pi.step ev3 wd3
        refine ⟨s3, ρi, owni, μi, d, [], ρ', eH', p3, r, Frs.nil, ea, fun σ4 own4 p4 _ _ => ⟨s3, ρ', own4, μi, rfl, p4, (ResG.sig hW qi).mono fun fl μ5 h5 => ?_⟩⟩
        have g3 := g.trans (ev3.go pi.wd)
        cases fl with
        | nx ρ5 => exact fun σ5 own5 s5 p5 g5 => ⟨s5, ρ5, own5, μ5, rfl, p5, g3.trans g5, ResG.sig hW h5⟩
        | cont ρ5 => exact fun σ5 own5 s5 p5 g5 => ⟨s5, ρ5, own5, μ5, rfl, p5, g3.trans g5, ResG.sig hW h5⟩
        | brk ρ5 => exact fun σ5 own5 s5 p5 g5 => h5.ret σ5 own5 s5 p5 ((ev.go p.wd).trans (g3.trans g5))
        | rt d => exact h5.ret
    · subst e
      have en : xs.drop xs.length = [] := by simp
      rw [en] at qi
      exact qi.ret σi owni si pi ((ev.go p.wd).trans g)
end
end Vf

/-! V11 -/
set_option autoImplicit false
set_option linter.all false
set_option Elab.async false
set_option maxHeartbeats 1000000
/-! V11: what is written. -/
namespace Vf
open PySem PySem.Spec PyProof.Rows L2

section
variable {C : Ctx} {s s' : Sx} {ρ : Env} {σ : L2.St} {own : Nat → List Addr} {μ μ' : Sto} {d d' : D} {v : V} {o o2 : List Addr} {i : Nat} {a : Addr} {u : HO}
theorem Pre.fresh0 (p : Pre C s ρ σ own μ) (h : a ∈ own i) : C.s0.H a = none := by
  rcases p.ev.dn a (p.r.ow i a h).1 with z | z
  · exact absurd z (p.fr i a h)
  · exact z
theorem RepX.fz {K : PySem.W.Frag} {w : World} {xh : Option XH} (k : Kp s (s.less o)) (h : RepX K w xh s d v o) : RepX K w xh (s.less o) d.fz v [] := by
  cases d with
  | exn c fs =>
    obtain ⟨h, a, b, c', d, e, f⟩ := h
    exact ⟨h, a, b, rfl, d, e, f.keep k⟩
  | _ => exact RepX.of (Rep.fz _ _ _ h fun a ha => ha)
/-- a slot's own object is written -/
theorem Pre.upd (p : Pre C s ρ σ own μ) (ha : a ∈ own i) (mu : Mut (some u)) (hi : i < ρ.length) (hv : σ[i]? = some (some v)) (r : Rep C.K C.w (s.put a u) d' v o2) (nd : o2.Nodup)
    (ow : ∀ b ∈ o2, s.O b ∧ b ∉ s.ι ∧ ¬ C.s0.O b) (ap : ∀ j, j ≠ i → ∀ b, b ∈ own j → b ∉ o2) : Pre C (s.put a u) (ρ.set i (some d')) σ (fun j => if j = i then o2 else own j) μ ∧ Go s (s.put a u) := by
  have oa := p.r.ow i a ha
  have h0 := p.fresh0 ha
  have keep : ∀ b, b ≠ a → (s.put a u).H b = s.H b := fun b e => upd_ne e
  refine ⟨⟨⟨fun j e h => ?_, fun j b h => ?_, fun j => ?_, fun j k b hjk h h' => ?_, by rw [List.length_set]; exact p.r.len⟩, p.wd.put oa.1 oa.2 mu, ?_, fun j b h => ?_⟩, Go.put p.wd oa.1⟩
  · rcases set_get h with ⟨rfl, rfl, hl⟩ | ⟨hn, h⟩
    · exact ⟨v, hv, by simp only [if_true]; exact RepX.of r⟩
    · obtain ⟨w, h1, h2⟩ := p.r.at_ j e h
      refine ⟨w, h1, ?_⟩
      simp only [if_neg hn]
      exact RepX.keep (Kp.put p.wd oa.1) h2 fun b hb => keep b fun e => p.r.ap j i b hn hb (by rw [e]; exact ha)
  · by_cases e : j = i
    · simp only [if_pos e] at h; exact ⟨(ow b h).1, (ow b h).2.1⟩
    · simp only [if_neg e] at h; exact p.r.ow j b h
  · by_cases e : j = i
    · simp only [if_pos e]; exact nd
    · simp only [if_neg e]; exact p.r.nd j
  · by_cases e : j = i
    · have e' : k ≠ i := fun z => hjk (e.trans z.symm)
      simp only [if_pos e] at h
      simp only [if_neg e'] at h'
      exact ap k e' b h' h
    · simp only [if_neg e] at h
      by_cases e' : k = i
      · simp only [if_pos e'] at h'; exact ap j e b h h'
      · simp only [if_neg e'] at h'; exact p.r.ap j k b hjk h h'
  · exact ⟨fun b x h n => (keep b fun e => by rw [e, h0] at h; cases h).trans (p.ev.ext b x h n), p.ev.pre, p.ev.up, p.ev.dn, fun b h => by
      by_cases e : b = a
      · rw [e]; exact h0
      · rw [keep b e] at h; exact p.ev.live b h⟩
  · by_cases e : j = i
    · simp only [if_pos e] at h; exact (ow b h).2.2
    · simp only [if_neg e] at h; exact p.fr j b h
/-- a slot is frozen -/
theorem Pre.frz (p : Pre C s ρ σ own μ) (hd : ρ[i]? = some (some d)) : Pre C (s.less (own i)) (ρ.set i (some d.fz)) σ (fun j => if j = i then [] else own j) μ ∧ Go s (s.less (own i)) := by
  have g : Go s (s.less (own i)) := Go.less p.wd
  refine ⟨⟨⟨fun j e h => ?_, fun j b h => ?_, fun j => ?_, fun j k b hjk h h' => ?_, by rw [List.length_set]; exact p.r.len⟩, p.wd.less fun b hb => (p.r.ow i b hb).2, p.ev.less fun b hb => p.fr i b hb, fun j b h => ?_⟩, g⟩
  · rcases set_get h with ⟨rfl, rfl, hl⟩ | ⟨hn, h⟩
    · obtain ⟨w, h1, h2⟩ := p.r.at_ _ _ hd
      exact ⟨w, h1, by simp only [if_true]; exact RepX.fz g.kp h2⟩
    · obtain ⟨w, h1, h2⟩ := p.r.at_ j e h
      refine ⟨w, h1, ?_⟩
      simp only [if_neg hn]
      exact RepX.keep g.kp h2 fun b hb => rfl
  · by_cases e : j = i
    · simp only [if_pos e] at h; cases h
    · simp only [if_neg e] at h
      exact ⟨⟨(p.r.ow j b h).1, p.r.ap j i b e h⟩, (p.r.ow j b h).2⟩
  · by_cases e : j = i
    · simp only [if_pos e]; exact List.nodup_nil
    · simp only [if_neg e]; exact p.r.nd j
  · by_cases e : j = i
    · simp only [if_pos e] at h; cases h
    · simp only [if_neg e] at h
      by_cases e' : k = i
      · simp only [if_pos e'] at h'; cases h'
      · simp only [if_neg e'] at h'; exact p.r.ap j k b hjk h h'
  · by_cases e : j = i
    · simp only [if_pos e] at h; cases h
    · simp only [if_neg e] at h; exact p.fr j b h
theorem RepL.set {K : PySem.W.Frag} {w : World} {s : Sx} {d : D} {v : V} (r1 : Rep K w s d v []) : ∀ {ds : List D} {vs : List V} (j : Nat), RepL K w s ds vs [] → RepL K w s (ds.set j d) (vs.set j v) []
  | [], vs, j, h => by
    obtain ⟨rfl, _⟩ := h
    exact ⟨rfl, rfl⟩
  | x :: ds, vs, 0, h => by
    obtain ⟨y, vs', e, r2, r3⟩ := h.cons_of
    subst e
    exact RepL.cons r1 r3
  | x :: ds, vs, j + 1, h => by
    obtain ⟨y, vs', e, r2, r3⟩ := h.cons_of
    subst e
    exact RepL.cons r2 (RepL.set r1 j r3)
/-- a shared object is written -/
theorem Pre.refSet (p : Pre C s ρ σ own μ) {n j : Nat} {ds : List D} {vs : List V} (hn : s.ι[n]? = some a) (hm : μ[n]? = some ds) (hH : s.H a = some (.lst vs)) (r : RepL C.K C.w s ds vs []) (rd : Rep C.K C.w s d v []) :
    Pre C (s.put a (.lst (vs.set j v))) ρ σ own (μ.set n (ds.set j d)) ∧ Go s (s.put a (.lst (vs.set j v))) := by
  have ha : a ∈ s.ι := (List.getElem?_eq_some_iff.mp hn).2 ▸ List.getElem_mem _
  have oa := p.wd.sub a ha
  have keep : ∀ b, b ≠ a → (s.put a (.lst (vs.set j v))).H b = s.H b := fun b e => upd_ne e
  have kp := Kp.put (u := .lst (vs.set j v)) p.wd oa
  refine ⟨⟨⟨fun k e h => ?_, p.r.ow, p.r.nd, p.r.ap, p.r.len⟩, ⟨fun b h => ?_, p.wd.sub, p.wd.nd, by rw [List.length_set]; exact p.wd.len, fun m b es h1 h2 => ?_⟩, ?_, p.fr⟩, Go.put p.wd oa⟩
  · obtain ⟨w, h1, h2⟩ := p.r.at_ k e h
    exact ⟨w, h1, RepX.keep kp h2 fun b hb => keep b fun e => (p.r.ow k b hb).2 (by rw [e]; exact ha)⟩
  · by_cases e : b = a
    · rw [e]; show Mut (L2.upd s.H a _ a); rw [upd_same]; exact trivial
    · rw [keep b e]; exact p.wd.mt b h
  · by_cases e : m = n
    · subst e
      have e1 : b = a := by
        have h1 : s.ι[m]? = some b := h1
        rw [hn] at h1; exact (Option.some.inj h1).symm
      have hl : m < μ.length := (List.getElem?_eq_some_iff.mp hm).1
      rw [List.getElem?_set_self hl] at h2
      cases h2
      rw [e1]
      exact ⟨_, upd_same, RepL.set (Rep.keep kp _ _ _ rd fun _ z => nomatch z) j (RepL.keep kp _ _ _ r fun _ z => nomatch z)⟩
    · rw [List.getElem?_set_ne (Ne.symm e)] at h2
      obtain ⟨us, h3, h4⟩ := p.wd.at_ m b es h1 h2
      have e1 : b ≠ a := fun z => e ((List.getElem?_inj (List.getElem?_eq_some_iff.mp (show s.ι[m]? = some b from h1)).1 p.wd.nd).mp (by rw [show s.ι[m]? = some b from h1, hn, z]))
      exact ⟨us, (keep b e1).trans h3, RepL.keep kp _ _ _ h4 fun _ z => nomatch z⟩
  · refine ⟨fun b x h n => (keep b fun e => ?_).trans (p.ev.ext b x h n), p.ev.pre, p.ev.up, p.ev.dn, fun b h => ?_⟩
    · obtain ⟨t, e1, e2⟩ := p.ev.pre
      rw [e] at n h
      rw [e1] at ha
      rcases List.mem_append.mp ha with z | z
      · exact n z
      · rw [e2 a z] at h; cases h
    · by_cases e : b = a
      · rw [e] at h
        have h : L2.upd s.H a (.lst (vs.set j v)) a = none := h
        rw [upd_same] at h; cases h
      · rw [keep b e] at h; exact p.ev.live b h
end
theorem notComp_sole {e : Expr} (h : notComp e = true) (t : Expr) (l : Nat) (env : PySem.Env) : swapsWithSole [t] e l env = pure false := notComp_sw h (some t) l env
/-! ### append -/
section
variable {C : Ctx} {e a b : Expr} {f g : Env → M D} {pos pos' pos'' apos : Pos} {i : Nat} {x : Str}
def noCall : Expr → Bool
  | .Call .. => false
  | _ => true
theorem noCall_ok {o : Expr} (h : noCall o = true) (m : Str) (env : PySem.Env) (w : Sem Value) : attributeBase o m env w = w := by
  cases o <;> first | rfl | cases h
theorem few1 {e : Expr} (h : notStar e = true) (pos : Pos) (env : PySem.Env) : ((backTo pos (starEach [e] env)).all (fun x => !x.1) && (backToKw pos (keywordEach [] env)).all (fun x => x.1.isSome)
      && decide (([e] : List Expr).length + ([] : List Keyword).length + (if ([] : List Keyword).isEmpty then 0 else 1) < 30)) = true := by
  rw [notStar_ok h]; rfl
def appK (i : Nat) (f : Env → M D) : Env → M Fl := fun ρ => match ρ[i]? with
    | some (some (.lst true ds)) => M.bind (f ρ) fun d => guard' (decide (ds.length < LINE)) (M.ret (.nx (ρ.set i (some (.lst true (ds ++ [d]))))))
    | _ => M.bad
theorem app_cases {o : Option (Option D)} {α : Type} {k : List D → M α} {σ : L2.St} {μ : Sto} {F : α → Sto → Prop} (h : ResG C σ ((match o with
    | some (some (.lst true ds)) => k ds
    | _ => M.bad : M α) μ) F) : ∃ ds, o = some (some (.lst true ds)) ∧ ResG C σ (k ds μ) F := by
  match o, h with
  | some (some (.lst true ds)), h => exact ⟨ds, rfl, h⟩
  | some (some (.lst false ds)), h => exact h.elim
  | some (some .non), h => exact h.elim
  | some (some (.bl _)), h => exact h.elim
  | some (some (.int _)), h => exact h.elim
  | some (some (.str _)), h => exact h.elim
  | some (some (.tup _)), h => exact h.elim
  | some (some (.dct _ _ _)), h => exact h.elim
  | some (some (.ref _)), h => exact h.elim
  | some (some (.exn _ _)), h => exact h.elim
  | some none, h => exact h.elim
  | none, h => exact h.elim
theorem ok_app (hN : C.X.N[i]? = some x) (hv : Vis C.X.env.scope x) (hd : (x == ("__debug__" : Str)) = false) (hc : (x == ("__classdict__" : Str)) = false) (h : OkE C e f) (hs : notStar e = true) (hl : (apos.endLine == pos.line) = true) :
    OkS C (.Expr (.Call (.Attribute (.Name x pos'') "append" apos) [e] [] pos) pos') (appK i f) :=
  PS_imp (ps_expr (pe_bm PySem.F.plainAttrs_list PySem.F.slot_list_append PySem.F.type_list_append mt_append (pe_var hN hv hd hc) (pa_cons h pa_nil (notStar_ok hs [] _)) rfl (few1 hs _ _) hl (notStar_ok hs [] _) rfl)) fun D σ H ⟨s, ρ, own, μ, e1, p, q⟩ => by
    obtain ⟨ds, hρ, q⟩ := app_cases q
    obtain ⟨v, hv, r⟩ := p.r.at_ i _ hρ
    obtain ⟨l, vs, o', ev, hH, eo, rr⟩ := r
    subst e1
    refine ⟨v, hv, by rw [ev]; exact .inl ⟨rfl, vs, .of hH⟩, s, ρ, own, μ, rfl, p, q.bind.mono fun d μ1 h1 y s1 o po => ?_⟩
    obtain ⟨gl, h1⟩ := ResG.guard h1
    have p1 := p.step po.ev po.wd
    have hl1 : l ∈ own i := by rw [eo]; exact List.mem_cons_self
    have hH1 := po.ev.ext l _ hH (p.r.ow i l hl1).2
    refine ⟨l, vs, y, ev, rfl, hH1, by rw [← line_eq, ← rr.len]; exact of_decide_eq_true gl, ?_⟩
    have rr1 := po.ev.repLo p.wd rr fun b hb => p.r.ow i b (by rw [eo]; exact List.mem_cons_of_mem _ hb)
    have kp := Kp.put (u := .lst (vs ++ [y])) p1.wd (p1.r.ow i l hl1).1
    have nd := p.r.nd i
    rw [eo] at nd
    have nd2 := List.nodup_cons.mp nd
    have ho : ∀ b ∈ o, b ∉ own i := fun b hb z => (po.ow b hb).2.1 (p.r.ow i b z).1
    have hlo : l ∉ o := fun z => ho l z hl1
    have keep : ∀ b, b ≠ l → (s1.put l (.lst (vs ++ [y]))).H b = s1.H b := fun b e => upd_ne e
    obtain ⟨pf, g⟩ := p1.upd (i := i) (a := l) (u := .lst (vs ++ [y])) (d' := .lst true (ds ++ [d])) (v := v) (o2 := l :: (o' ++ o)) hl1 trivial (List.getElem?_eq_some_iff.mp hρ).1 hv
      ⟨l, vs ++ [y], o' ++ o, ev, upd_same, rfl, RepL.append (RepL.keep kp _ _ _ rr1 fun b hb => keep b fun e => nd2.1 (by rw [← e]; exact hb)) ⟨y, [], o, [], rfl, by simp, Rep.keep kp _ _ _ po.rep fun b hb => keep b fun e => hlo (by rw [← e]; exact hb), rfl, rfl⟩⟩
      (List.nodup_cons.mpr ⟨fun z => (List.mem_append.mp z).elim nd2.1 hlo, List.nodup_append.mpr ⟨nd2.2, po.nd, fun b hb c hc e => ho c hc (by rw [eo, ← e]; exact List.mem_cons_of_mem _ hb)⟩⟩)
      (fun b hb => by
        rcases List.mem_cons.mp hb with e | hb
        · rw [e]; exact ⟨(p1.r.ow i l hl1).1, (p1.r.ow i l hl1).2, p.fr i l hl1⟩
        · rcases List.mem_append.mp hb with hb | hb
          · have : b ∈ own i := by rw [eo]; exact List.mem_cons_of_mem _ hb
            exact ⟨(p1.r.ow i b this).1, (p1.r.ow i b this).2, p.fr i b this⟩
          · exact ⟨(po.ow b hb).1, (po.ow b hb).2.2, fun z => (po.ow b hb).2.1 (p.ev.up b z)⟩)
      (fun j hj b hb z => by
        rcases List.mem_cons.mp z with e | z
        · exact p.r.ap j i b hj hb (by rw [e]; exact hl1)
        · rcases List.mem_append.mp z with z | z
          · exact p.r.ap j i b hj hb (by rw [eo]; exact List.mem_cons_of_mem _ z)
          · exact (po.ow b z).2.1 (p.r.ow j b hb).1)
    exact h1.ret σ _ _ pf ((po.ev.go p.wd).trans g)
end
/-! append to a list within one's own list -/
theorem RepL.appAt {K : PySem.W.Frag} {w : World} {s : Sx} {μ : Sto} (W : Wd K w s μ) {d : D} {y : V} {od : List Addr} (rd : Rep K w s d y od) {es : List D} : ∀ {ds : List D} {vs : List V} {o : List Addr} {j : Nat}, RepL K w s ds vs o → ds[j]? = some (.lst true es) → o.Nodup →
    (∀ b ∈ o, s.O b) → (∀ b ∈ o, b ∉ od) → ∃ b esV, vs[j]? = some (.ref b) ∧ s.H b = some (.lst esV) ∧ b ∈ o ∧ es.length = esV.length ∧ ∃ o2, RepL K w (s.put b (.lst (esV ++ [y]))) (ds.set j (.lst true (es ++ [d]))) vs o2 ∧ o2.Perm (o ++ od)
  | [], _, _, _, _, e, _, _, _ => by simp at e
  | x :: ds, vs, o, 0, r, e, nd, ow, ap => by
    obtain ⟨v, vs', o1, o2, ev, eo, r1, r2⟩ := r
    simp at e
    subst e ev eo
    obtain ⟨b, esV, ob, ev, hH, eo, rr⟩ := r1
    subst eo
    have nd' := List.nodup_append.mp nd
    have nd1 := List.nodup_cons.mp nd'.1
    have hb : b ∈ (b :: ob) ++ o2 := List.mem_append_left _ List.mem_cons_self
    have kp := Kp.put (u := .lst (esV ++ [y])) W (ow b hb)
    have keep : ∀ c, c ≠ b → (s.put b (.lst (esV ++ [y]))).H c = s.H c := fun c e => upd_ne e
    refine ⟨b, esV, by simp [ev], hH, hb, rr.len, (b :: (ob ++ od)) ++ o2, ⟨v, vs', _, o2, rfl, rfl, ⟨b, esV ++ [y], ob ++ od, ev, upd_same, rfl, ?_⟩, ?_⟩, ?_⟩
    · exact RepL.append (RepL.keep kp _ _ _ rr fun c hc => keep c fun e => nd1.1 (by rw [← e]; exact hc)) ⟨y, [], od, [], rfl, by simp, Rep.keep kp _ _ _ rd fun c hc => keep c fun e => ap b hb (by rw [← e]; exact hc), rfl, rfl⟩
    · exact RepL.keep kp _ _ _ r2 fun c hc => keep c fun e => nd'.2.2 b List.mem_cons_self c hc e.symm
    · show (b :: ((ob ++ od) ++ o2)).Perm (b :: ((ob ++ o2) ++ od))
      refine List.Perm.cons b ?_
      rw [List.append_assoc, List.append_assoc]
      exact List.Perm.append_left ob List.perm_append_comm
  | x :: ds, vs, o, j + 1, r, e, nd, ow, ap => by
    obtain ⟨v, vs', o1, o2, ev, eo, r1, r2⟩ := r
    subst ev eo
    have nd' := List.nodup_append.mp nd
    obtain ⟨b, esV, h1, h2, h3, h4, o3, h5, h6⟩ := RepL.appAt W rd (j := j) r2 (by simpa using e) nd'.2.1 (fun b hb => ow b (List.mem_append_right _ hb)) fun b hb => ap b (List.mem_append_right _ hb)
    have kp := Kp.put (u := .lst (esV ++ [y])) W (ow b (List.mem_append_right _ h3))
    have keep : ∀ c, c ≠ b → (s.put b (.lst (esV ++ [y]))).H c = s.H c := fun c e => upd_ne e
    refine ⟨b, esV, by simpa using h1, h2, List.mem_append_right _ h3, h4, o1 ++ o3, ⟨v, vs', o1, o3, rfl, rfl, Rep.keep kp _ _ _ r1 fun c hc => keep c fun e => nd'.2.2 c hc b h3 e, h5⟩, ?_⟩
    rw [List.append_assoc]
    exact List.Perm.append_left o1 h6
section
variable {C : Ctx} {e a b : Expr} {f g : Env → M D} {pos pos' pos'' apos spos : Pos} {i : Nat} {x : Str}
def appAtK (i : Nat) (g f : Env → M D) : Env → M Fl := fun ρ => match ρ[i]? with
    | some (some (.lst true ds)) => M.bind (g ρ) fun k => match ixD ds.length k with
      | some j => match ds[j]? with
        | some (.lst true es) => M.bind (f ρ) fun d => guard' (decide (es.length < LINE)) (M.ret (.nx (ρ.set i (some (.lst true (ds.set j (.lst true (es ++ [d]))))))))
        | _ => M.bad
      | none => M.bad
    | _ => M.bad
theorem lst_cases {o : Option D} {α : Type} {k : List D → M α} {σ : L2.St} {μ : Sto} {F : α → Sto → Prop} (h : ResG C σ ((match o with
    | some (.lst true ds) => k ds
    | _ => M.bad : M α) μ) F) : ∃ ds, o = some (.lst true ds) ∧ ResG C σ (k ds μ) F := by
  match o, h with
  | some (.lst true ds), h => exact ⟨ds, rfl, h⟩
  | some (.lst false ds), h => exact h.elim
  | some .non, h => exact h.elim
  | some (.bl _), h => exact h.elim
  | some (.int _), h => exact h.elim
  | some (.str _), h => exact h.elim
  | some (.tup _), h => exact h.elim
  | some (.dct _ _ _), h => exact h.elim
  | some (.ref _), h => exact h.elim
  | some (.exn _ _), h => exact h.elim
  | none, h => exact h.elim
theorem ixD_some {n : Nat} {k : D} {j : Nat} (h : ixD n k = some j) : ∃ m : Int, k = .int m ∧ ixN n m = some j := by
  cases k with
  | int m => exact ⟨m, rfl, h⟩
  | _ => cases h
theorem ok_appAt (hu : C.X.A.units + 64 < cLine) (hN : C.X.N[i]? = some x) (hv : Vis C.X.env.scope x) (hd : (x == ("__debug__" : Str)) = false) (hc : (x == ("__classdict__" : Str)) = false) (hk : OkE C b g) (hks : notSlice b = true) (h : OkE C e f) (hs : notStar e = true) (hl : (apos.endLine == pos.line) = true) :
    OkS C (.Expr (.Call (.Attribute (.Subscript (.Name x pos'') b spos) "append" apos) [e] [] pos) pos') (appAtK i g f) :=
  PS_imp (ps_expr (pe_bm PySem.F.plainAttrs_list PySem.F.slot_list_append PySem.F.type_list_append mt_append (pe_ix (ix_all hu) (pe_var hN hv hd hc) hk (notSlice_ok hks)) (pa_cons h pa_nil (notStar_ok hs [] _)) rfl (few1 hs _ _) hl (notStar_ok hs [] _) rfl)) fun Ds σ H ⟨s, ρ, own, μ, e1, p, q⟩ => by
    obtain ⟨ds, hρ, q⟩ := app_cases q
    obtain ⟨v, hv, r⟩ := p.r.at_ i _ hρ
    obtain ⟨l, vs, o', ev, hH, eo, rr⟩ := r
    subst e1
    refine ⟨v, hv, s, ρ, own, μ, rfl, p, q.bind.mono fun k μ1 h1 vk s1 ok pk => ?_⟩
    cases ej : ixD ds.length k with
    | none => simp only [ej] at h1; exact h1.elim
    | some j =>
      simp only [ej] at h1
      obtain ⟨m, ek, hj⟩ := ixD_some ej
      subst ek
      obtain ⟨es, hds, h1⟩ := lst_cases h1
      have hl1 : l ∈ own i := by rw [eo]; exact List.mem_cons_self
      have p1 := p.step pk.ev pk.wd
      have hH1 := pk.ev.ext l _ hH (p.r.ow i l hl1).2
      have rr1 := pk.ev.repLo p.wd rr fun b hb => p.r.ow i b (by rw [eo]; exact List.mem_cons_of_mem _ hb)
      have nd := p.r.nd i
      rw [eo] at nd
      have nd2 := List.nodup_cons.mp nd
      -- the item's own address
      have key0 : ∃ b0 esV, vs[j]? = some (.ref b0) ∧ s1.H b0 = some (.lst esV) := by
        obtain ⟨b0, esV, h2, h3, _⟩ := RepL.appAt p1.wd (d := .non) (y := .non) (od := []) ⟨rfl, rfl⟩ rr1 hds nd2.2 (fun b hb => (p1.r.ow i b (by rw [eo]; exact List.mem_cons_of_mem _ hb)).1) (fun _ _ z => nomatch z)
        exact ⟨b0, esV, h2, h3⟩
      obtain ⟨b0, esV0, hv0, hH0⟩ := key0
      have hat : L2.atI vs m = some (.ref b0) := by
        unfold L2.atI
        rw [← rr.len, hj]
        exact hv0
      refine .inl (.inl ⟨l, vs, m, .ref b0, ev, pk.rep.1, .of hH1, hat, .inl ⟨rfl, esV0, .of hH0⟩, s1, ρ, own, μ1, rfl, p1, h1.bind.mono fun d μ2 h2 y s2 o po => ?_⟩)
      obtain ⟨gl, h2⟩ := ResG.guard h2
      have p2 := p1.step po.ev po.wd
      have hH2 := po.ev.ext l _ hH1 (p1.r.ow i l hl1).2
      have rr2 := po.ev.repLo p1.wd rr1 fun b hb => p1.r.ow i b (by rw [eo]; exact List.mem_cons_of_mem _ hb)
      have ho : ∀ b ∈ o, b ∉ own i := fun b hb z => (po.ow b hb).2.1 (p1.r.ow i b z).1
      obtain ⟨b1, esV, g1, g2, g3, g4, o2, g5, g6⟩ := RepL.appAt p2.wd po.rep rr2 hds nd2.2 (fun b hb => (p2.r.ow i b (by rw [eo]; exact List.mem_cons_of_mem _ hb)).1) (fun b hb z => ho b z (by rw [eo]; exact List.mem_cons_of_mem _ hb))
      have eb : b1 = b0 := by rw [hv0] at g1; exact (V.ref.inj (Option.some.inj g1)).symm
      subst eb
      have hb1 : b1 ∈ own i := by rw [eo]; exact List.mem_cons_of_mem _ g3
      have hlb : l ≠ b1 := fun z => nd2.1 (by rw [z]; exact g3)
      have mem2 : ∀ b, b ∈ o2 → b ∈ o' ∨ b ∈ o := fun b hb => List.mem_append.mp (g6.mem_iff.mp hb)
      obtain ⟨pf, gg⟩ := p2.upd (i := i) (a := b1) (u := .lst (esV ++ [y])) (d' := .lst true (ds.set j (.lst true (es ++ [d])))) (v := v) (o2 := l :: o2) hb1 trivial (List.getElem?_eq_some_iff.mp hρ).1 hv
        ⟨l, vs, o2, ev, (show upd s2.H b1 _ l = _ by rw [upd_ne hlb]; exact hH2), rfl, g5⟩
        (List.nodup_cons.mpr ⟨fun z => (mem2 l z).elim nd2.1 fun z => ho l z hl1, g6.nodup_iff.mpr (List.nodup_append.mpr ⟨nd2.2, po.nd, fun b hb c hc e => ho c hc (by rw [eo, ← e]; exact List.mem_cons_of_mem _ hb)⟩)⟩)
        (fun b hb => by
          rcases List.mem_cons.mp hb with e | hb
          · rw [e]; exact ⟨(p2.r.ow i l hl1).1, (p2.r.ow i l hl1).2, p.fr i l hl1⟩
          · rcases mem2 b hb with hb | hb
            · have : b ∈ own i := by rw [eo]; exact List.mem_cons_of_mem _ hb
              exact ⟨(p2.r.ow i b this).1, (p2.r.ow i b this).2, p.fr i b this⟩
            · exact ⟨(po.ow b hb).1, (po.ow b hb).2.2, fun z => (po.ow b hb).2.1 (p1.ev.up b z)⟩)
        (fun k hk b hb z => by
          rcases List.mem_cons.mp z with e | z
          · exact p.r.ap k i b hk hb (by rw [e]; exact hl1)
          · rcases mem2 b z with z | z
            · exact p.r.ap k i b hk hb (by rw [eo]; exact List.mem_cons_of_mem _ z)
            · exact (po.ow b z).2.1 (p1.r.ow k b hb).1)
      refine ⟨b1, esV, y, rfl, rfl, g2, by rw [← line_eq, ← g4]; exact of_decide_eq_true gl, h2.ret σ _ _ pf (((pk.ev.trans po.ev).go p.wd).trans gg)⟩
end
/-! ### xs[k] = v, d[k] = v -/
theorem PSet.or {X : Cx} {t t' : TSet} (h : PSet X t) (h' : PSet X t') : PSet X (fun o i v H Q => t o i v H Q ∨ t' o i v H Q) := by
  intro pins s σ H o i v ov iv u Q I ro ri rv q
  rcases q with q | q
  · exact h pins s σ H o i v ov iv u Q I ro ri rv q
  · exact h' pins s σ H o i v ov iv u Q I ro ri rv q
def rSetAll : TSet := fun o i v H Q => rSetL o i v H Q ∨ rSetD o i v H Q
theorem set_all {X : Cx} (hu : X.A.units + 64 < cLine) : PSet X rSetAll := PSet.or set_list (set_dict (by omega))
def krepV : List Key → List V → Key → V → List V
  | k :: ks, v :: vs, q, x => (if k = q then x else v) :: krepV ks vs q x
  | _, vs, _, _ => vs
theorem krep_len : ∀ {ks : List Key} {ds : List D} {q : Key} {d : D}, (krep ks ds q d).length = ds.length
  | [], ds, _, _ => rfl
  | k :: ks, [], _, _ => rfl
  | k :: ks, d :: ds, q, x => by show (krep ks ds q x).length + 1 = ds.length + 1; rw [krep_len]
theorem zip_krep : ∀ {ks : List Key} {vs : List V} {q : Key} {x : V}, (ks.zip vs).map (fun kv => if kv.1 = q then (kv.1, x) else kv) = ks.zip (krepV ks vs q x)
  | [], vs, _, _ => rfl
  | k :: ks, [], _, _ => rfl
  | k :: ks, v :: vs, q, x => by
    show (if k = q then (k, x) else (k, v)) :: _ = (k, if k = q then x else v) :: ks.zip (krepV ks vs q x)
    rw [← zip_krep]
    congr 1
    by_cases e : k = q
    · rw [if_pos e, if_pos e]
    · rw [if_neg e, if_neg e]
theorem krep_rep {K : PySem.W.Frag} {w : World} {s : Sx} {d : D} {v : V} (rd : Rep K w s d v []) {q : Key} : ∀ {ks : List Key} {ds : List D} {vs : List V}, RepL K w s ds vs [] → RepL K w s (krep ks ds q d) (krepV ks vs q v) []
  | [], _, _, h => h
  | k :: ks, [], vs, h => by
    obtain ⟨rfl, _⟩ := h
    exact ⟨rfl, rfl⟩
  | k :: ks, x :: ds, vs, h => by
    obtain ⟨y, vs', e, r2, r3⟩ := h.cons_of
    subst e
    refine RepL.cons ?_ (krep_rep rd r3)
    by_cases e : k = q
    · rw [if_pos e, if_pos e]; exact rd
    · rw [if_neg e, if_neg e]; exact r2
theorem any_zip {ks : List Key} {vs : List V} {q : Key} (l : ks.length = vs.length) : ((ks.zip vs).any fun kv => decide (kv.1 = q)) = ks.any fun k => decide (k = q) := by
  induction ks generalizing vs with
  | nil => rfl
  | cons k ks ih =>
    cases vs with
    | nil => simp at l
    | cons v vs =>
      rw [List.zip_cons_cons, List.any_cons, List.any_cons, ih (by simpa using l)]
theorem kput_rep {K : PySem.W.Frag} {w : World} {s : Sx} {d : D} {v : V} {q : Key} {ks : List Key} {ds : List D} {vs : List V} (rd : Rep K w s d v []) (r : RepL K w s ds vs []) (l : ks.length = ds.length) :
    ∃ vs', putK (ks.zip vs) q v = (kput ks ds q d).1.zip vs' ∧ (kput ks ds q d).1.length = (kput ks ds q d).2.length ∧ RepL K w s (kput ks ds q d).2 vs' [] := by
  unfold putK kput
  rw [any_zip (by rw [l, r.len])]
  by_cases e : (ks.any fun k => decide (k = q)) = true
  · rw [if_pos e, if_pos e]
    exact ⟨krepV ks vs q v, zip_krep, by rw [krep_len]; exact l, krep_rep rd r⟩
  · rw [if_neg e, if_neg e]
    refine ⟨vs ++ [v], ?_, by simp [l], RepL.append r (RepL.cons rd ⟨rfl, rfl⟩)⟩
    rw [List.zip_append (by rw [l, r.len])]
    rfl
section
variable {C : Ctx} {e a b : Expr} {f g h : Env → M D} {pos pos' pos'' apos spos : Pos} {i : Nat} {x : Str}
def putKK (i : Nat) (g f : Env → M D) : Env → M Fl := fun ρ => match ρ[i]? with
    | some (some x) => M.bind (f ρ) fun d => M.bind (g ρ) fun k => guard' d.nb (M.bind (putD x k d) fun x' => M.ret (.nx (ρ.set i (some x'))))
    | _ => M.bad
theorem pg_subS {X : Cx} {o i : Expr} {to ti : TE} {t : TSet} (ho : PE X o to) (hi : PE X i ti) (hs : PSet X t) (hn : notSlice i = true) : PG X (.Subscript o i pos) (gSub to ti t) :=
  pg_sub ho hi hs (by intro v; cases i <;> first | rfl | cases hn)
theorem ok_put (hu : C.X.A.units + 64 < cLine) (hN : C.X.N[i]? = some x) (hv : Vis C.X.env.scope x) (hd : (x == ("__debug__" : Str)) = false) (hc : (x == ("__classdict__" : Str)) = false) (hk : OkE C b g) (hks : notSlice b = true) (hh : OkE C e f) (hs : notComp e = true) :
    OkS C (.Assign [.Subscript (.Name x pos'') b spos] e pos) (putKK i g f) :=
  PS_imp (ps_asg hh (pg_subS (pe_var hN hv hd hc) hk (set_all hu) hks) (notComp_sole hs _ _ _) rfl rfl) fun Ds σ H ⟨s, ρ, own, μ, e1, p, q⟩ => by
    unfold putKK at q
    cases hρ : ρ[i]? with
    | none => simp only [hρ] at q; exact q.elim
    | some od =>
      cases od with
      | none => simp only [hρ] at q; exact q.elim
      | some x0 =>
        simp only [hρ] at q
        obtain ⟨v, hv, r⟩ := p.r.at_ i _ hρ
        refine ⟨s, ρ, own, μ, e1, p, q.bind.mono fun d μ1 h1 y s1 o po => ?_⟩
        have p1 := p.step po.ev po.wd
        refine ⟨v, hv, s1, ρ, own, μ1, rfl, p1, h1.bind.mono fun k μ2 h2 vk s2 ok pk => ?_⟩
        have p2 := p1.step pk.ev pk.wd
        obtain ⟨nb, h2⟩ := ResG.guard h2
        have eo := Rep.nb _ _ _ po.rep nb
        subst eo
        have rd := pk.ev.rep0 po.wd po.rep
        obtain ⟨v', hv', r2⟩ := p2.r.at_ i _ hρ
        have evv : v' = v := by rw [hv] at hv'; exact (Option.some.inj (Option.some.inj hv')).symm
        subst evv
        have g02 := (po.ev.trans pk.ev).go p.wd
        have hil := (List.getElem?_eq_some_iff.mp hρ).1
        cases x0 with
        | lst b0 ds =>
          cases b0 with
          | false => exact h2.bind.elim
          | true =>
            have h3 := (show ResG C σ ((match ixD ds.length k with
              | some j => guard' (D.nbL ds) (M.ret (.lst true (ds.set j d)))
              | none => M.bad : M D) μ2) _ from h2.bind)
            cases ej : ixD ds.length k with
            | none => rw [ej] at h3; exact h3.elim
            | some j =>
              rw [ej] at h3
              obtain ⟨nbl, h3⟩ := ResG.guard h3
              obtain ⟨m, ek, hj⟩ := ixD_some ej
              subst ek
              obtain ⟨l, vs, o', ev, hH, eo, rr⟩ := r2
              have e0 := RepL.nb _ _ _ rr nbl
              subst e0
              have hl1 : l ∈ own i := by rw [eo]; exact List.mem_cons_self
              have kp := Kp.put (u := .lst (vs.set j y)) p2.wd (p2.r.ow i l hl1).1
              obtain ⟨pf, gg⟩ := p2.upd (i := i) (a := l) (u := .lst (vs.set j y)) (d' := .lst true (ds.set j d)) (v := v') (o2 := [l]) hl1 trivial hil hv
                ⟨l, vs.set j y, [], ev, upd_same, rfl, RepL.keep kp _ _ _ (RepL.set rd j rr) fun _ z => nomatch z⟩ (by simp)
                (fun b hb => by
                  have e' : b = l := by simpa using hb
                  rw [e']; exact ⟨(p2.r.ow i l hl1).1, (p2.r.ow i l hl1).2, p.fr i l hl1⟩)
                (fun k hk b hb z => by
                  have e' : b = l := by simpa using z
                  exact p.r.ap k i b hk hb (by rw [e']; exact hl1))
              exact .inl ⟨l, vs, m, j, ev, pk.rep.1, hH, by rw [← rr.len]; exact hj, h3.ret.ret σ _ _ pf (g02.trans gg)⟩
        | dct b0 ks ds =>
          cases b0 with
          | false => exact h2.bind.elim
          | true =>
            have h3 := (show ResG C σ ((match keyOf k with
              | some k => guard' (decide (ks.length < LINE)) (M.ret (.dct true (kput ks ds k d).1 (kput ks ds k d).2))
              | none => M.bad : M D) μ2) _ from h2.bind)
            cases ek : keyOf k with
            | none => rw [ek] at h3; exact h3.elim
            | some key =>
              rw [ek] at h3
              obtain ⟨gl, h3⟩ := ResG.guard h3
              obtain ⟨l, vs, ev, hH, eo, ll, rr⟩ := r2
              have hl1 : l ∈ own i := by rw [eo]; exact List.mem_cons_self
              obtain ⟨vs', e1', e2', e3'⟩ := kput_rep (q := key) rd rr ll
              have kp := Kp.put (u := .dK ((kput ks ds key d).1.zip vs')) p2.wd (p2.r.ow i l hl1).1
              obtain ⟨pf, gg⟩ := p2.upd (i := i) (a := l) (u := .dK ((kput ks ds key d).1.zip vs')) (d' := .dct true (kput ks ds key d).1 (kput ks ds key d).2) (v := v') (o2 := [l]) hl1 trivial hil hv
                ⟨l, vs', ev, upd_same, rfl, e2', RepL.keep kp _ _ _ e3' fun _ z => nomatch z⟩ (by simp)
                (fun b hb => by
                  have e' : b = l := by simpa using hb
                  rw [e']; exact ⟨(p2.r.ow i l hl1).1, (p2.r.ow i l hl1).2, p.fr i l hl1⟩)
                (fun k hk b hb z => by
                  have e' : b = l := by simpa using z
                  exact p.r.ap k i b hk hb (by rw [e']; exact hl1))
              refine .inr ⟨l, upd s2.H l (.dK ((kput ks ds key d).1.zip vs')), ev, .inl ⟨_, key, hH, (pk.rep.key ek).1, ?_, by rw [e1']⟩, h3.ret.ret σ _ _ pf (g02.trans gg)⟩
              rw [← line_eq, List.length_zip, ← rr.len, ← ll, Nat.min_self]
              exact of_decide_eq_true gl
        | _ => exact h2.bind.elim
/-! shared objects -/
theorem setR_ok {a k d : D} {μ : Sto} {σ : L2.St} {F : Unit → Sto → Prop} (h : ResG C σ (setR a k d μ) F) : ∃ n m ds j, a = .ref n ∧ k = .int m ∧ μ[n]? = some ds ∧ ixN ds.length m = some j ∧ F () (μ.set n (ds.set j d)) := by
  cases a with
  | ref n =>
    have h : ResG C σ (match μ[n]? with
      | some ds => match ixD ds.length k with
        | some j => .ok () (μ.set n (ds.set j d))
        | none => .bad
      | none => .bad) F := h
    cases em : μ[n]? with
    | none => rw [em] at h; exact h.elim
    | some ds =>
      rw [em] at h
      dsimp only at h
      cases ej : ixD ds.length k with
      | none => rw [ej] at h; exact h.elim
      | some j =>
        rw [ej] at h
        obtain ⟨m, ek, hj⟩ := ixD_some ej
        exact ⟨n, m, ds, j, rfl, ek, em, hj, h⟩
  | _ => exact h.elim
def rputK (h g f : Env → M D) : Env → M Fl := fun ρ => M.bind (f ρ) fun d => M.bind (h ρ) fun a => M.bind (g ρ) fun k => guard' d.nb (M.bind (setR a k d) fun _ => M.ret (.nx ρ))
theorem ok_rput (hu : C.X.A.units + 64 < cLine) (ha : OkE C a h) (hk : OkE C b g) (hks : notSlice b = true) (hh : OkE C e f) (hs : notComp e = true) : OkS C (.Assign [.Subscript a b spos] e pos) (rputK h g f) :=
  PS_imp (ps_asg hh (pg_subS ha hk (set_all hu) hks) (notComp_sole hs _ _ _) rfl rfl) fun Ds σ H ⟨s, ρ, own, μ, e1, p, q⟩ => by
    refine ⟨s, ρ, own, μ, e1, p, q.bind.mono fun d μ1 h1 y s1 o po => ?_⟩
    have p1 := p.step po.ev po.wd
    refine ⟨s1, ρ, own, μ1, rfl, p1, h1.bind.mono fun x2 μ2 h2 v2 s2 o2 po2 => ?_⟩
    have p2 := p1.step po2.ev po2.wd
    refine ⟨s2, ρ, own, μ2, rfl, p2, h2.bind.mono fun k μ3 h3 v3 s3 o3 po3 => ?_⟩
    have p3 := p2.step po3.ev po3.wd
    obtain ⟨nb, h3⟩ := ResG.guard h3
    have eo := Rep.nb _ _ _ po.rep nb
    subst eo
    have rd := po3.ev.rep0 po2.wd (po2.ev.rep0 po.wd po.rep)
    obtain ⟨n, m, ds, j, ea, ek, em, hj, hF⟩ := setR_ok h3.bind
    subst ea ek
    obtain ⟨a, en, ev, eo⟩ := po2.rep
    subst eo
    obtain ⟨a, en, ev, _⟩ := po3.ev.rep0 po2.wd po2.rep
    obtain ⟨vs, hH, r⟩ := p3.wd.at_ n a ds en em
    obtain ⟨pf, gg⟩ := p3.refSet (j := j) en em hH r rd
    exact .inl ⟨a, vs, m, j, ev, po3.rep.1, hH, by rw [← r.len]; exact hj, hF.ret σ own _ pf (((po.ev.trans (po2.ev.trans po3.ev)).go p.wd).trans gg)⟩
theorem get_list {X : Cx} : PGet X (rIxL X.K) := by
  intro pins s σ H x y v u Q I rx ry h
  obtain ⟨p, xs, i, z, rfl, rfl, hq, he, q⟩ := h
  cases rx
  obtain ⟨t, rfl⟩ := ry
  obtain ⟨its, r, pl, hz⟩ := I.list hq
  obtain ⟨j, h1, h2, h3, h4, h5⟩ := atI_get he
  obtain ⟨w, ew, rw'⟩ := r.get h2
  have hl := r.length
  have hn := line63
  have fin : EP X pins σ Q w s := ⟨z, H, I, rw', q⟩
  by_cases h0 : 0 ≤ i
  · have hj : i.toNat = j := by
      rw [seqIndex_of h0 h5] at h1
      exact Option.some.inj h1
    exact wpAny_getItem_list pl.isList h0 (by omega) (by rw [hj]; simpa using ew) fin
  · have hj : (i + (its.toArray.size : Int)).toNat = j := by
      rw [seqIndex_neg (by omega) h4] at h1
      rw [List.size_toArray, ← hl]
      exact Option.some.inj h1
    exact wpAny_getItem_list_neg pl.isList (by omega) (by rw [List.size_toArray] <;> omega) (by omega) (by rw [hj]; simpa using ew) fin
theorem getR_ok {a k : D} {μ : Sto} {σ : L2.St} {F : D → Sto → Prop} (h : ResG C σ (getR a k μ) F) : ∃ n m ds j d, a = .ref n ∧ k = .int m ∧ μ[n]? = some ds ∧ ixN ds.length m = some j ∧ ds[j]? = some d ∧ F d μ := by
  cases a with
  | ref n =>
    have h : ResG C σ (match μ[n]? with
      | some ds => match ixD ds.length k with
        | some j => ofO ds[j]? μ
        | none => .bad
      | none => .bad) F := h
    cases em : μ[n]? with
    | none => rw [em] at h; exact h.elim
    | some ds =>
      rw [em] at h
      dsimp only at h
      cases ej : ixD ds.length k with
      | none => rw [ej] at h; exact h.elim
      | some j =>
        rw [ej] at h
        obtain ⟨m, ek, hj⟩ := ixD_some ej
        obtain ⟨d, ed, hF⟩ := h.ofO
        exact ⟨n, m, ds, j, d, rfl, ek, em, hj, ed, hF⟩
  | _ => exact h.elim
def raugK (op : Bop) (h g f : Env → M D) : Env → M Fl := fun ρ => M.bind (h ρ) fun a => M.bind (g ρ) fun k => M.bind (getR a k) fun x => M.bind (f ρ) fun y => M.bind (augD op x y) fun d => M.bind (setR a k d) fun _ => M.ret (.nx ρ)
theorem ok_raug {op : Bop} (ha : OkE C a h) (hk : OkE C b g) (hks : notSlice b = true) (hh : OkE C e f) : OkS C (.AugAssign (.Subscript a b spos) (augOp op) e pos) (raugK op h g f) :=
  PS_imp (ps_augS ha hk get_list hh (ip_aug op) set_list (by intros; cases b <;> first | rfl | cases hks)) fun Ds σ H ⟨s, ρ, own, μ, e1, p, q⟩ => by
    refine ⟨s, ρ, own, μ, e1, p, q.bind.mono fun a μ1 h1 va s1 oa pa => ?_⟩
    have p1 := p.step pa.ev pa.wd
    refine ⟨s1, ρ, own, μ1, rfl, p1, h1.bind.mono fun k μ2 h2 vk s2 ok pk => ?_⟩
    have p2 := p1.step pk.ev pk.wd
    obtain ⟨n, m, ds, j, x0, ea, ek, em, hj, hx, hF⟩ := getR_ok h2.bind
    subst ea ek
    obtain ⟨a, en, ev, eo⟩ := pa.rep
    subst eo
    obtain ⟨a, en, ev, _⟩ := pk.ev.rep0 pa.wd pa.rep
    obtain ⟨vs, hH, r⟩ := p2.wd.at_ n a ds en em
    obtain ⟨vx, hvx, rx⟩ := r.at_ hx
    refine ⟨a, vs, m, vx, ev, pk.rep.1, .of hH, by unfold L2.atI; rw [← r.len, hj]; exact hvx, s2, ρ, own, μ2, rfl, p2, hF.bind.mono fun y μ3 h3 vy s3 oy py => ?_⟩
    have p3 := p2.step py.ev py.wd
    obtain ⟨i1, i2, e1', e2', h4⟩ := augD_ok h3.bind
    subst e1' e2'
    obtain ⟨n', m', ds', j', ea, ek, em', hj', hF'⟩ : ∃ n' m' ds' j', (D.ref n) = .ref n' ∧ (D.int m) = .int m' ∧ μ3[n']? = some ds' ∧ ixN ds'.length m' = some j' ∧ (FlP C Ds s (.nx ρ) (μ3.set n' (ds'.set j' (.int (augI op i1 i2))))) := by
      rcases h4 with ⟨rfl, h4⟩ | ⟨rfl, h4⟩
      · obtain ⟨n', m', ds', j', a1, a2, a3, a4, a5⟩ := setR_ok h4.bind
        exact ⟨n', m', ds', j', a1, a2, a3, a4, a5.ret⟩
      · obtain ⟨n', m', ds', j', a1, a2, a3, a4, a5⟩ := setR_ok h4.bind
        exact ⟨n', m', ds', j', a1, a2, a3, a4, a5.ret⟩
    cases ea
    cases ek
    have en3 : s3.ι[n]? = some a := (py.ev.kp p2.wd).ref en
    obtain ⟨vs3, hH3, r3⟩ := p3.wd.at_ n a ds' en3 em'
    obtain ⟨pf, gg⟩ := p3.refSet (j := j') (d := .int (augI op i1 i2)) (v := .int (augI op i1 i2)) en3 em' hH3 r3 ⟨rfl, rfl⟩
    exact ⟨i1, i2, rx.1, py.rep.1, a, vs3, m, j', ev, pk.rep.1, hH3, by rw [← r3.len]; exact hj', hF' σ own _ pf (((pa.ev.trans (pk.ev.trans py.ev)).go p.wd).trans gg)⟩
end
end Vf

/-! VA -/
set_option autoImplicit false
set_option linter.all false
set_option Elab.async false
set_option maxHeartbeats 4000000
set_option maxRecDepth 10000
/-! VA: append to a part of a part. -/
namespace Vf
open PySem PySem.Spec PyProof.Rows L2
theorem RepL.refAt {K : PySem.W.Frag} {w : World} {s : Sx} {es : List D} : ∀ {ds : List D} {vs : List V} {o : List Addr} {j : Nat}, RepL K w s ds vs o → ds[j]? = some (.lst true es) → ∃ b, vs[j]? = some (.ref b) ∧ b ∈ o
  | [], _, _, _, _, e => by simp at e
  | x :: ds, vs, o, 0, r, e => by
    obtain ⟨v, vs', o1, o2, ev, eo, r1, r2⟩ := r
    simp at e
    subst e ev eo
    obtain ⟨b, esV, ob, ev, hH, eo, rr⟩ := r1
    subst eo
    exact ⟨b, by simp [ev], List.mem_append_left _ List.mem_cons_self⟩
  | x :: ds, vs, o, j + 1, r, e => by
    obtain ⟨v, vs', o1, o2, ev, eo, r1, r2⟩ := r
    subst ev eo
    obtain ⟨b, h1, h2⟩ := RepL.refAt (j := j) r2 (by simpa using e)
    exact ⟨b, by simpa using h1, List.mem_append_right _ h2⟩
theorem RepL.app2 {K : PySem.W.Frag} {w : World} {s : Sx} {μ : Sto} (W : Wd K w s μ) {d : D} {y : V} {od : List Addr} (rd : Rep K w s d y od) {es fs : List D} {j2 : Nat} (he : es[j2]? = some (.lst true fs)) : ∀ {ds : List D} {vs : List V} {o : List Addr} {j : Nat}, RepL K w s ds vs o → ds[j]? = some (.lst true es) → o.Nodup →
    (∀ b ∈ o, s.O b) → (∀ b ∈ o, b ∉ od) → ∃ b esV c fsV, vs[j]? = some (.ref b) ∧ s.H b = some (.lst esV) ∧ es.length = esV.length ∧ esV[j2]? = some (.ref c) ∧ s.H c = some (.lst fsV) ∧ c ∈ o ∧ fs.length = fsV.length ∧
      ∃ o2, RepL K w (s.put c (.lst (fsV ++ [y]))) (ds.set j (.lst true (es.set j2 (.lst true (fs ++ [d]))))) vs o2 ∧ o2.Perm (o ++ od)
  | [], _, _, _, _, e, _, _, _ => by simp at e
  | x :: ds, vs, o, 0, r, e, nd, ow, ap => by
    obtain ⟨v, vs', o1, o2, ev, eo, r1, r2⟩ := r
    simp at e
    subst e ev eo
    obtain ⟨b, esV, ob, ev, hH, eo, rr⟩ := r1
    subst eo
    have nd' := List.nodup_append.mp nd
    have nd1 := List.nodup_cons.mp nd'.1
    have hb : b ∈ (b :: ob) ++ o2 := List.mem_append_left _ List.mem_cons_self
    obtain ⟨c, fsV, h1, h2, h3, h4, o3, h5, h6⟩ := RepL.appAt W rd (j := j2) rr he nd1.2 (fun b hb => ow b (List.mem_append_left _ (List.mem_cons_of_mem _ hb))) fun b hb => ap b (List.mem_append_left _ (List.mem_cons_of_mem _ hb))
    have hc : c ∈ (b :: ob) ++ o2 := List.mem_append_left _ (List.mem_cons_of_mem _ h3)
    have kp := Kp.put (u := .lst (fsV ++ [y])) W (ow c hc)
    have keep : ∀ a, a ≠ c → (s.put c (.lst (fsV ++ [y]))).H a = s.H a := fun a e => upd_ne e
    have hbc : b ≠ c := fun z => nd1.1 (by rw [z]; exact h3)
    refine ⟨b, esV, c, fsV, by simp [ev], hH, rr.len, h1, h2, hc, h4, (b :: o3) ++ o2, ⟨v, vs', _, o2, rfl, rfl, ⟨b, esV, o3, ev, ?_, rfl, h5⟩, ?_⟩, ?_⟩
    · rw [keep b hbc]; exact hH
    · exact RepL.keep kp _ _ _ r2 fun a ha => keep a fun e => nd'.2.2 c (List.mem_cons_of_mem _ h3) a ha e.symm
    · show (b :: (o3 ++ o2)).Perm (b :: ((ob ++ o2) ++ od))
      refine List.Perm.cons b ((List.Perm.append_right o2 h6).trans ?_)
      rw [List.append_assoc, List.append_assoc]
      exact List.Perm.append_left ob List.perm_append_comm
  | x :: ds, vs, o, j + 1, r, e, nd, ow, ap => by
    obtain ⟨v, vs', o1, o2, ev, eo, r1, r2⟩ := r
    subst ev eo
    have nd' := List.nodup_append.mp nd
    obtain ⟨b, esV, c, fsV, h1, h2, h2', h3, h3', h4, h4', o3, h5, h6⟩ := RepL.app2 W rd he (j := j) r2 (by simpa using e) nd'.2.1 (fun b hb => ow b (List.mem_append_right _ hb)) fun b hb => ap b (List.mem_append_right _ hb)
    have kp := Kp.put (u := .lst (fsV ++ [y])) W (ow c (List.mem_append_right _ h4))
    have keep : ∀ a, a ≠ c → (s.put c (.lst (fsV ++ [y]))).H a = s.H a := fun a e => upd_ne e
    refine ⟨b, esV, c, fsV, by simpa using h1, h2, h2', h3, h3', List.mem_append_right _ h4, h4', o1 ++ o3, ⟨v, vs', o1, o3, rfl, rfl, Rep.keep kp _ _ _ r1 fun a ha => keep a fun e => nd'.2.2 a ha c h4 e, h5⟩, ?_⟩
    rw [List.append_assoc]
    exact List.Perm.append_left o1 h6
section
variable {C : Ctx} {e : Expr} {f : Env → M D} {pos pos' pos'' apos spos spos2 q1 q2 : Pos} {i : Nat} {x : Str}
def app2K (i : Nat) (m1 m2 : Int) (f : Env → M D) : Env → M Fl := fun ρ => match ρ[i]? with
    | some (some (.lst true ds)) => match ixD ds.length (.int m1) with
      | some j1 => match ds[j1]? with
        | some (.lst true es) => match ixD es.length (.int m2) with
          | some j2 => match es[j2]? with
            | some (.lst true fs) => M.bind (f ρ) fun d => guard' (decide (fs.length < LINE)) (M.ret (.nx (ρ.set i (some (.lst true (ds.set j1 (.lst true (es.set j2 (.lst true (fs ++ [d]))))))))))
            | _ => M.bad
          | none => M.bad
        | _ => M.bad
      | none => M.bad
    | _ => M.bad
theorem ok_app2 {m1 m2 : Int} {n1 n2 : Nat} (hu : C.X.A.units + 64 < cLine) (hN : C.X.N[i]? = some x) (hv : Vis C.X.env.scope x) (hd : (x == ("__debug__" : Str)) = false) (hc : (x == ("__classdict__" : Str)) = false) (h : OkE C e f) (hs : notStar e = true) (hl : (apos.endLine == pos.line) = true) :
    OkS C (.Expr (.Call (.Attribute (.Subscript (.Subscript (.Name x pos'') (.Constant (.int m1) n1 q1) spos) (.Constant (.int m2) n2 q2) spos2) "append" apos) [e] [] pos) pos') (app2K i m1 m2 f) :=
  PS_imp (ps_expr (pe_bm PySem.F.plainAttrs_list PySem.F.slot_list_append PySem.F.type_list_append mt_append (pe_ix (ix_all hu) (pe_ix (ix_all hu) (pe_var hN hv hd hc) pe_int (notSlice_ok rfl)) pe_int (notSlice_ok rfl)) (pa_cons h pa_nil (notStar_ok hs [] _)) rfl (few1 hs _ _) hl (notStar_ok hs [] _) rfl)) fun Ds σ H ⟨s, ρ, own, μ, e1, p, q⟩ => by
    obtain ⟨ds, hρ, q⟩ := app_cases q
    obtain ⟨v, hv, r⟩ := p.r.at_ i _ hρ
    obtain ⟨l, vs, o', ev, hH, eo, rr⟩ := r
    subst e1
    cases ej : ixD ds.length (.int m1) with
    | none => simp only [ej] at q; exact q.elim
    | some j1 =>
      simp only [ej] at q
      obtain ⟨m, ek, hj1⟩ := ixD_some ej
      cases ek
      obtain ⟨es, hds, q⟩ := lst_cases q
      cases ej2 : ixD es.length (.int m2) with
      | none => simp only [ej2] at q; exact q.elim
      | some j2 =>
        simp only [ej2] at q
        obtain ⟨m', ek, hj2⟩ := ixD_some ej2
        cases ek
        obtain ⟨fs, hes, q⟩ := lst_cases q
        have hl1 : l ∈ own i := by rw [eo]; exact List.mem_cons_self
        have nd := p.r.nd i
        rw [eo] at nd
        have nd2 := List.nodup_cons.mp nd
        have ow1 : ∀ b ∈ o', s.O b := fun b hb => (p.r.ow i b (by rw [eo]; exact List.mem_cons_of_mem _ hb)).1
        obtain ⟨b0, esV0, c0, fsV0, hv0, hb0, hle, hc0, hcH, hco, _⟩ := RepL.app2 p.wd (d := .non) (y := .non) (od := []) ⟨rfl, rfl⟩ hes rr hds nd2.2 ow1 (fun _ _ z => nomatch z)
        have hat : L2.atI vs m1 = some (.ref b0) := by
          unfold L2.atI
          rw [← rr.len, hj1]
          exact hv0
        have hat2 : L2.atI esV0 m2 = some (.ref c0) := by
          unfold L2.atI
          rw [← hle, hj2]
          exact hc0
        refine ⟨v, hv, .inl (.inl ⟨l, vs, m1, .ref b0, ev, rfl, .of hH, hat, .inl (.inl ⟨b0, esV0, m2, .ref c0, rfl, rfl, .of hb0, hat2, .inl ⟨rfl, fsV0, .of hcH⟩, s, ρ, own, μ, rfl, p, q.bind.mono fun d μ2 h2 y s2 o po => ?_⟩)⟩)⟩
        obtain ⟨gl, h2⟩ := ResG.guard h2
        have p2 := p.step po.ev po.wd
        have hH2 := po.ev.ext l _ hH (p.r.ow i l hl1).2
        have rr2 := po.ev.repLo p.wd rr fun b hb => p.r.ow i b (by rw [eo]; exact List.mem_cons_of_mem _ hb)
        have ho : ∀ b ∈ o, b ∉ own i := fun b hb z => (po.ow b hb).2.1 (p.r.ow i b z).1
        obtain ⟨b1, esV, c1, fsV, g1, g2, g3, g3', g4, g5', g4', o2, g5, g6⟩ := RepL.app2 p2.wd po.rep hes rr2 hds nd2.2 (fun b hb => (p2.r.ow i b (by rw [eo]; exact List.mem_cons_of_mem _ hb)).1) (fun b hb z => ho b z (by rw [eo]; exact List.mem_cons_of_mem _ hb))
        have eb : b1 = b0 := by rw [hv0] at g1; exact (V.ref.inj (Option.some.inj g1)).symm
        subst eb
        have ob1 : b1 ∈ own i := by
          obtain ⟨bb, z1, z2⟩ := RepL.refAt rr hds
          rw [hv0] at z1
          rw [V.ref.inj (Option.some.inj z1), eo]
          exact List.mem_cons_of_mem _ z2
        have eesV : esV = esV0 := by
          have z := po.ev.ext b1 _ hb0 (p.r.ow i b1 ob1).2
          rw [z] at g2
          exact (HO.lst.inj (Option.some.inj g2)).symm
        subst eesV
        have ec : c1 = c0 := by rw [hc0] at g3'; exact (V.ref.inj (Option.some.inj g3')).symm
        subst ec
        have hc1 : c1 ∈ own i := by rw [eo]; exact List.mem_cons_of_mem _ g5'
        have hlc : l ≠ c1 := fun z => nd2.1 (by rw [z]; exact g5')
        have mem2 : ∀ b, b ∈ o2 → b ∈ o' ∨ b ∈ o := fun b hb => List.mem_append.mp (g6.mem_iff.mp hb)
        obtain ⟨pf, gg⟩ := p2.upd (i := i) (a := c1) (u := .lst (fsV ++ [y])) (d' := .lst true (ds.set j1 (.lst true (es.set j2 (.lst true (fs ++ [d])))))) (v := v) (o2 := l :: o2) hc1 trivial (List.getElem?_eq_some_iff.mp hρ).1 hv
          ⟨l, vs, o2, ev, (show upd s2.H c1 _ l = _ by rw [upd_ne hlc]; exact hH2), rfl, g5⟩
          (List.nodup_cons.mpr ⟨fun z => (mem2 l z).elim nd2.1 fun z => ho l z hl1, g6.nodup_iff.mpr (List.nodup_append.mpr ⟨nd2.2, po.nd, fun b hb c hc e => ho c hc (by rw [eo, ← e]; exact List.mem_cons_of_mem _ hb)⟩)⟩)
          (fun b hb => by
            rcases List.mem_cons.mp hb with e | hb
            · rw [e]; exact ⟨(p2.r.ow i l hl1).1, (p2.r.ow i l hl1).2, p.fr i l hl1⟩
            · rcases mem2 b hb with hb | hb
              · have : b ∈ own i := by rw [eo]; exact List.mem_cons_of_mem _ hb
                exact ⟨(p2.r.ow i b this).1, (p2.r.ow i b this).2, p.fr i b this⟩
              · exact ⟨(po.ow b hb).1, (po.ow b hb).2.2, fun z => (po.ow b hb).2.1 (p.ev.up b z)⟩)
          (fun k hk b hb z => by
            rcases List.mem_cons.mp z with e | z
            · exact p.r.ap k i b hk hb (by rw [e]; exact hl1)
            · rcases mem2 b z with z | z
              · exact p.r.ap k i b hk hb (by rw [eo]; exact List.mem_cons_of_mem _ z)
              · exact (po.ow b z).2.1 (p.r.ow k b hb).1)
        refine ⟨c1, fsV, y, rfl, rfl, g4, by rw [← line_eq, ← g4']; exact of_decide_eq_true gl, h2.ret σ _ _ pf ((po.ev.go p.wd).trans gg)⟩
end
end Vf

/-! VB -/
set_option autoImplicit false
set_option linter.all false
set_option Elab.async false
set_option maxHeartbeats 4000000
set_option maxRecDepth 10000
/-! VB: own things are written, the rest of the heap stays. -/
namespace Vf
open PySem PySem.Spec PyProof.Rows L2

/-- all but o stays -/
structure Be (o : List Addr) (H H' : Hp) : Prop where
  ext : ∀ a u, H a = some u → a ∉ o → H' a = some u
  live : ∀ a, H' a = none → H a = none
theorem Be.refl {H : Hp} {o : List Addr} : Be o H H := ⟨fun _ _ h _ => h, fun _ h => h⟩
theorem Be.trans {o p : List Addr} {H H1 H2 : Hp} (a : Be o H H1) (b : Be p H1 H2) : Be (o ++ p) H H2 :=
  ⟨fun x u h n => b.ext x u (a.ext x u h fun z => n (List.mem_append_left _ z)) fun z => n (List.mem_append_right _ z), fun x h => a.live x (b.live x h)⟩
theorem Be.mono {o p : List Addr} {H H1 : Hp} (a : Be o H H1) (h : ∀ x ∈ o, x ∈ p) : Be p H H1 := ⟨fun x u e n => a.ext x u e fun z => n (h x z), a.live⟩
theorem Be.put {a : Addr} {H : Hp} {u : HO} : Be [a] H (upd H a u) :=
  ⟨fun x v h n => by rw [upd_ne fun e => n (by rw [e]; exact List.mem_singleton_self _)]; exact h, fun x h => by
    by_cases e : x = a
    · rw [e, upd_same] at h; cases h
    · rw [upd_ne e] at h; exact h⟩
/-- the world behind it -/
def Sx.aft (s : Sx) (o : List Addr) (H : Hp) : Sx := ⟨H, fun a => s.O a ∧ a ∉ o, s.ι⟩
section
variable {K : PySem.W.Frag} {w : World} {s : Sx} {μ : Sto} {o p : List Addr} {H : Hp}
theorem Be.kp (b : Be o s.H H) (W : Wd K w s μ) (ho : ∀ a ∈ o, s.O a) : Kp s (s.aft o H) :=
  ⟨W.mt, fun a u h n => b.ext a u h fun z => n (ho a z), fun a h => .inl h.1, ⟨[], by simp [Sx.aft], fun _ z => nomatch z⟩⟩
theorem Be.wd (b : Be o s.H H) (W : Wd K w s μ) (ho : ∀ a ∈ o, s.O a ∧ a ∉ s.ι) : Wd K w (s.aft o H) μ where
  mt := fun a h => by
    have m := W.mt a h.1
    show Mut (H a)
    cases e : s.H a with
    | none => rw [e] at m; exact m.elim
    | some u => rw [b.ext a u e h.2]; rw [e] at m; exact m
  sub := fun a h => ⟨W.sub a h, fun z => (ho a z).2 h⟩
  nd := W.nd
  len := W.len
  at_ := fun n a ds h1 h2 => by
    obtain ⟨vs, h3, h4⟩ := W.at_ n a ds h1 h2
    exact ⟨vs, b.ext a _ h3 fun z => (ho a z).2 (List.mem_of_getElem? h1), RepL.keep (b.kp W fun a z => (ho a z).1) ds vs [] h4 fun _ z => nomatch z⟩
theorem Be.rep (b : Be o s.H H) (W : Wd K w s μ) (ho : ∀ a ∈ o, s.O a) {d : D} {v : V} (hp : ∀ a ∈ p, s.O a) (ap : ∀ a ∈ p, a ∉ o) (r : Rep K w s d v p) : Rep K w (s.aft o H) d v p :=
  Rep.keep (b.kp W ho) d v p r fun a ha => by
    have m := W.mt a (hp a ha)
    show H a = s.H a
    cases e : s.H a with
    | none => rw [e] at m; exact m.elim
    | some u => exact b.ext a u e (ap a ha)
end
/-- the slot is given up -/
theorem Pre.bent {C : Ctx} {s : Sx} {ρ : Env} {σ : L2.St} {own : Nat → List Addr} {μ : Sto} {i : Nat} {H : Hp} (p : Pre C s ρ σ own μ) (b : Be (own i) s.H H) : Pre C (s.aft (own i) H) (ρ.set i none) σ (fun j => if j = i then [] else own j) μ ∧ Go s (s.aft (own i) H) := by
  have k := b.kp p.wd fun a ha => (p.r.ow i a ha).1
  refine ⟨⟨⟨fun j e h => ?_, fun j a h => ?_, fun j => ?_, fun j l a hjl h h' => ?_, by rw [List.length_set]; exact p.r.len⟩, b.wd p.wd fun a ha => p.r.ow i a ha, ?_, fun j a h => ?_⟩, k, b.live⟩
  · have hj : j ≠ i := fun z => by
      subst z
      by_cases hl : j < ρ.length
      · rw [List.getElem?_set_self hl] at h; cases h
      · rw [List.getElem?_eq_none (by rw [List.length_set]; omega)] at h; cases h
    rw [List.getElem?_set_ne (Ne.symm hj)] at h
    obtain ⟨v, h1, h2⟩ := p.r.at_ j e h
    simp only [if_neg hj]
    refine ⟨v, h1, RepX.keep k h2 fun a ha => ?_⟩
    have m := p.wd.mt a (p.r.ow j a ha).1
    show H a = s.H a
    cases e : s.H a with
    | none => rw [e] at m; exact m.elim
    | some u => exact b.ext a u e (p.r.ap j i a hj ha)
  · by_cases e : j = i
    · simp only [if_pos e] at h; cases h
    · simp only [if_neg e] at h
      exact ⟨⟨(p.r.ow j a h).1, p.r.ap j i a e h⟩, (p.r.ow j a h).2⟩
  · by_cases e : j = i
    · simp only [if_pos e]; exact List.nodup_nil
    · simp only [if_neg e]; exact p.r.nd j
  · by_cases e : j = i
    · simp only [if_pos e] at h; cases h
    · simp only [if_neg e] at h
      by_cases e' : l = i
      · simp only [if_pos e'] at h'; cases h'
      · simp only [if_neg e'] at h'; exact p.r.ap j l a hjl h h'
  · exact ⟨fun a u h n => b.ext a u (p.ev.ext a u h n) (fun z => by rw [p.fresh0 z] at h; cases h), p.ev.pre, fun a h => ⟨p.ev.up a h, fun z => p.fr i a z h⟩, fun a h => p.ev.dn a h.1, fun a h => p.ev.live a (b.live a h)⟩
  · by_cases e : j = i
    · simp only [if_pos e] at h; cases h
    · simp only [if_neg e] at h; exact p.fr j a h
end Vf

/-! V12 -/
set_option autoImplicit false
set_option linter.all false
set_option Elab.async false
set_option maxHeartbeats 4000000
set_option maxRecDepth 10000
/-! V12: the look at the text; expressions. -/
namespace Vf
open PySem PySem.Spec PyProof.Rows L2

/-- what is known of names where one stands -/
structure Inf where
  N : List Str
  sc : Scope
  own : Option Scope
  calm : Bool
def Inf.at_ (t : Inf) (i : Nat) (x : Str) : Bool := decide (t.N[i]? = some x) && !(x == ("__debug__" : Str)) && !(x == ("__classdict__" : Str))
def Inf.see (t : Inf) (i : Nat) (x : Str) : Bool := t.at_ i x && (decide (t.sc.names.lookup x = some .local) || decide (t.sc.names.lookup x = some .cell) || decide (t.sc.names.lookup x = some .free))
def Inf.sto (t : Inf) (i : Nat) (x : Str) : Bool := t.at_ i x && (decide (t.sc.names.lookup x = some .local) || (decide (t.sc.names.lookup x = some .cell) && (match t.own with | none => true | some s => s.names.lookup x == some .cell)))
def Inf.gl (t : Inf) (x : Str) : Bool := decide (t.sc.names.lookup x = some .globalImplicit) && !(x == ("__debug__" : Str))
def Inf.blk (t : Inf) (scope : Scope) : Inf := ⟨t.N, relS scope t.sc, some scope, t.calm⟩
def ownOf (N : List Str) (ix : List Nat) : List (Str × Nat) := ix.map fun i => (N.getD i "", i)
theorem ownOf_snd (N : List Str) (ix : List Nat) : (ownOf N ix).map (·.2) = ix := by
  unfold ownOf
  rw [List.map_map]
  induction ix with
  | nil => rfl
  | cons i ix ih => rw [List.map_cons, ih]; rfl
/-- the defs' numbers of parameters -/
abbrev Sig := List (Str × Nat)
def opB : Operator → Bop → Bool
  | .Add, .add => true
  | .Sub, .sub => true
  | .Mult, .mul => true
  | .FloorDiv, .fdiv => true
  | .Mod, .mod => true
  | .Pow, .pow => true
  | _, _ => false
def bltS : Blt → Str
  | .len => "len" | .all => "all" | .any => "any" | .sum => "sum" | .sorted => "sorted" | .list => "list" | .tuple => "tuple" | .int => "int" | .abs => "abs" | .str => "str" | .lenum => "list" | .trev => "tuple" | .repr => "repr" | .sortd => "sorted"
def needCalm : Blt → Bool
  | .all | .any | .sum | .sorted => true
  | _ => false
def restE (op : BoolOp) (y : Expr) (r : List Expr) (pos : Pos) : Expr := match r with | [] => y | _ :: _ => .BoolOp op (y :: r) pos
def notIf : Expr → Bool
  | .IfExp .. => false
  | _ => true
mutual
def chkT : T → Inf → Expr → Bool
  | .nm i, t, .Name x _ => t.sto i x
  | .tup ts, t, .Tuple es _ _ => t.calm && decide (es.length = ts.length) && es.all notStar && chkTs ts t es
  | _, _, _ => false
def chkTs : List T → Inf → List Expr → Bool
  | [], _, [] => true
  | t :: ts, i, e :: es => chkT t i e && chkTs ts i es
  | _, _, _ => false
end
def isTupE : Expr → Bool
  | .Tuple .. => true
  | _ => false
def asDct1 : Expr → Option (Expr × Expr)
  | .Dict [some k] [v] _ => some (k, v)
  | _ => none
def asRev : Expr → Option Expr
  | .Subscript a (.Slice none none (some (.UnaryOp .USub (.Constant (.int 1) _ _) _)) _) _ => some a
  | _ => none
def asIsi : Expr → Option (Str × Expr × Str)
  | .Call (.Name x _) [a, .Name y _] [] _ => some (x, a, y)
  | _ => none
def asCall : Expr → Option (Str × Expr × List Expr)
  | .Call (.Name x _) (e :: es) [] _ => some (x, e, es)
  | _ => none
def asCall1 : Expr → Option (Str × Expr)
  | .Call (.Name x _) [a] [] _ => some (x, a)
  | _ => none
def asCall2 : Expr → Option (Str × Expr × Expr)
  | .Call (.Name x _) [a, b] [] _ => some (x, a, b)
  | _ => none
def asRevT : Expr → Option (Str × Str × Expr)
  | .Call (.Name x _) [.Call (.Name y _) [a] [] _] [] _ => some (x, y, a)
  | _ => none
def asLc : Expr → Option (Expr × Expr × Expr × List Expr × Int × Scope)
  | .ListComp e [⟨tg, it, c, n⟩] scope _ => some (e, tg, it, c, n, scope)
  | _ => none
def asLc2 : Expr → Option (Expr × Expr × Expr × Int × Expr × Expr × List Expr × Int × Scope)
  | .ListComp e [⟨tg, it, [], n⟩, ⟨tg2, it2, c2, n2⟩] scope _ => some (e, tg, it, n, tg2, it2, c2, n2, scope)
  | _ => none
def asFld : Expr → Option (Str × Str)
  | .Attribute (.Name x _) f _ => some (x, f)
  | _ => none
def asIsE : Expr → Option (Str × Str × Str)
  | .Call (.Name z _) [.Name x _, .Name y _] [] _ => some (z, x, y)
  | _ => none
theorem asFld_ok {e : Expr} {x f : Str} (h : asFld e = some (x, f)) : ∃ p q, e = .Attribute (.Name x p) f q := by
  unfold asFld at h; split at h <;> cases h; exact ⟨_, _, rfl⟩
theorem asIsE_ok {e : Expr} {z x y : Str} (h : asIsE e = some (z, x, y)) : ∃ p q r u, e = .Call (.Name z p) [.Name x q, .Name y r] [] u := by
  unfold asIsE at h; split at h <;> cases h; exact ⟨_, _, _, _, rfl⟩
theorem asDct1_ok {e k v : Expr} (h : asDct1 e = some (k, v)) : ∃ p, e = .Dict [some k] [v] p := by
  unfold asDct1 at h; split at h <;> cases h; exact ⟨_, rfl⟩
theorem asRev_ok {e a : Expr} (h : asRev e = some a) : ∃ k p1 p2 p3 p, e = .Subscript a (.Slice none none (some (.UnaryOp .USub (.Constant (.int 1) k p1) p2)) p3) p := by
  unfold asRev at h; split at h <;> cases h; exact ⟨_, _, _, _, _, rfl⟩
theorem asIsi_ok {e a : Expr} {x y : Str} (h : asIsi e = some (x, a, y)) : ∃ p q r, e = .Call (.Name x p) [a, .Name y q] [] r := by
  unfold asIsi at h; split at h <;> cases h; exact ⟨_, _, _, rfl⟩
theorem asCall_ok {e a : Expr} {x : Str} {es : List Expr} (h : asCall e = some (x, a, es)) : ∃ p r, e = .Call (.Name x p) (a :: es) [] r := by
  unfold asCall at h; split at h <;> cases h; exact ⟨_, _, rfl⟩
theorem asCall1_ok {e a : Expr} {x : Str} (h : asCall1 e = some (x, a)) : ∃ p r, e = .Call (.Name x p) [a] [] r := by
  unfold asCall1 at h; split at h <;> cases h; exact ⟨_, _, rfl⟩
theorem asCall2_ok {e a b : Expr} {x : Str} (h : asCall2 e = some (x, a, b)) : ∃ p r, e = .Call (.Name x p) [a, b] [] r := by
  unfold asCall2 at h; split at h <;> cases h; exact ⟨_, _, rfl⟩
theorem asRevT_ok {e a : Expr} {x y : Str} (h : asRevT e = some (x, y, a)) : ∃ p q r u, e = .Call (.Name x p) [.Call (.Name y q) [a] [] r] [] u := by
  unfold asRevT at h; split at h <;> cases h; exact ⟨_, _, _, _, rfl⟩
theorem asLc_ok {e e1 tg it : Expr} {c : List Expr} {n : Int} {scope : Scope} (h : asLc e = some (e1, tg, it, c, n, scope)) : ∃ p, e = .ListComp e1 [⟨tg, it, c, n⟩] scope p := by
  unfold asLc at h; split at h <;> cases h; exact ⟨_, rfl⟩
theorem asLc2_ok {e e1 tg it tg2 it2 : Expr} {c : List Expr} {n n2 : Int} {scope : Scope} (h : asLc2 e = some (e1, tg, it, n, tg2, it2, c, n2, scope)) : ∃ p, e = .ListComp e1 [⟨tg, it, [], n⟩, ⟨tg2, it2, c, n2⟩] scope p := by
  unfold asLc2 at h; split at h <;> cases h; exact ⟨_, rfl⟩
section
variable (G : Sig)
mutual
def chkE : E → Inf → Expr → Bool
  | .var i, t, .Name x _ => t.see i x
  | .brw i, t, .Name x _ => t.see i x
  | .non, _, .Constant .none _ _ => true
  | .bl b, _, .Constant (.bool c) _ _ => b == c
  | .int i, _, .Constant (.int j) _ _ => decide (i = j)
  | .str x, _, .Constant (.str y) _ _ => decide (x = y)
  | .glob x, t, .Name y _ => decide (x = y) && t.gl x
  | .addM a b, t, .BinOp a' op' b' _ => opB op' .add && !isBrw a && !isBrw b && chkE a t a' && chkE b t b'
  | .bin op a b, t, .BinOp a' op' b' _ => opB op' op && chkE a t a' && chkE b t b'
  | .neg a, t, .UnaryOp .USub a' _ => !isBrw a && chkE a t a'
  | .not a, t, .UnaryOp .Not a' _ => notIf a' && chkE a t a'
  | .and a b, t, .BoolOp .And (x :: y :: r) pos => !isBrw a && !isBrw b && notIf x && notIf (restE .And y r pos) && chkE a t x && chkE b t (restE .And y r pos)
  | .or a b, t, .BoolOp .Or (x :: y :: r) pos => !isBrw a && !isBrw b && notIf x && notIf (restE .Or y r pos) && chkE a t x && chkE b t (restE .Or y r pos)
  | .cmp op a b, t, .Compare a' [op'] [b'] _ => decide (op' = copOf op) && notSet b' && chkE a t a' && chkE b t b'
  | .chain op op2 a b c, t, .Compare a' [op', op2'] [b', c'] _ => decide (op' = copOf op) && decide (op2' = copOf op2) && notSet c' && chkE a t a' && chkE b t b' && chkE c t c'
  | .ife c a b, t, .IfExp c' a' b' _ => notIf c' && !isBrw a && !isBrw b && chkE c t c' && chkE a t a' && chkE b t b'
  | .tup es, t, .Tuple es' _ _ => chkEs es t es'
  | .lst es, t, .List es' _ => chkEs es t es'
  | .newRef es, t, .List es' _ => chkEs es t es'
  | .dct0, _, .Dict [] [] _ => true
  | .dct1 k v, t, e' => match asDct1 e' with
    | some (k', v') => !isBrw k && !isBrw v && chkE k t k' && chkE v t v'
    | none => false
  | .at0 i c, t, .Subscript (.Name x _) (.Constant (.int c') _ _) _ => decide (c' = c) && t.see i x
  | .idx a i, t, .Subscript a' i' _ => !isBrw i && notSlice i' && chkE a t a' && chkE i t i'
  | .slc a lo hi, t, .Subscript a' (.Slice lo' hi' none _) _ => chkE a t a' && chkO lo t lo' && chkO hi t hi'
  | .rev a, t, e' => match asRev e' with
    | some a' => chkE a t a'
    | none => false
  | .isi a ty, t, e' => match asIsi e' with
    | some (x, a', y) => decide (x = "isinstance") && decide (y = Str.ofString (tyN ty)) && t.gl x && t.gl y && notStar a' && chkE a t a'
    | none => false
  | .fld i f, t, e' => match asFld e' with
    | some (x, f') => decide (f' = f) && !t.calm && t.see i x
    | none => false
  | .isE i c, t, e' => match asIsE e' with
    | some (z, x, y) => decide (z = "isinstance") && decide (y = c) && !t.calm && t.see i x && t.gl z && t.gl y
    | none => false
  | .call f es, t, e' => match asCall e' with
    | some (x, e1, es') => t.calm && decide (x = f) && t.gl x && decide (G.lookup f = some es.length) && chkEs es t (e1 :: es')
    | none => false
  | .callB f es, t, e' => match asCall e' with
    | some (x, e1, es') => t.calm && decide (x = f) && t.gl x && decide (G.lookup f = some es.length) && (e1 :: es').all notStar && chkBs es t (e1 :: es')
    | none => false
  | .blt b e, t, e' => match b with
    | .trev => match asRevT e' with
      | some (x, y, a') => t.calm && decide (x = "tuple") && decide (y = "reversed") && t.gl x && t.gl y && notStar a' && chkE e t a'
      | none => false
    | .lenum => match asRevT e' with
      | some (x, y, a') => t.calm && decide (x = "list") && decide (y = "enumerate") && t.gl x && t.gl y && notStar a' && chkE e t a'
      | none => false
    | b => match asCall1 e' with
      | some (x, a') => (!needCalm b || t.calm) && decide (x = bltS b) && t.gl x && notStar a' && chkE e t a'
      | none => false
  | .lc tg it c e, t, e' => match asLc e' with
    | some (e1, tg', it', c', n, scope) => t.calm && decide (n = 0) && !isBrw e && notSetI it' && blkC t.N t.sc scope (ownOf t.N tg.ix) && chkI it t tg' it' && chkT tg (t.blk scope) tg' && chkC c (t.blk scope) c' && chkE e (t.blk scope) e1
    | none => false
  | .lc2 tg it tg2 it2 c e, t, e' => match asLc2 e' with
    | some (e1, tg', it', n, tg2', it2', c', n2, scope) => t.calm && decide (n = 0) && decide (n2 = 0) && !isBrw e && notSetI it' && notSetI it2' && blkC t.N t.sc scope (ownOf t.N (tg.ix ++ tg2.ix)) && chkI it t tg' it' && chkT tg (t.blk scope) tg'
      && chkI it2 (t.blk scope) tg2' it2' && chkT tg2 (t.blk scope) tg2' && chkC c (t.blk scope) c' && chkE e (t.blk scope) e1
    | none => false
  | _, _, _ => false
def chkEs : List E → Inf → List Expr → Bool
  | [], _, [] => true
  | e :: es, t, e' :: es' => !isBrw e && notStar e' && chkE e t e' && chkEs es t es'
  | _, _, _ => false
def chkBs : List E → Inf → List Expr → Bool
  | [], _, [] => true
  | .brw i :: es, t, .Name x _ :: es' => t.see i x && chkBs es t es'
  | _, _, _ => false
def chkO : Option E → Inf → Option Expr → Bool
  | none, _, none => true
  | some e, t, some e' => !isBrw e && chkE e t e'
  | _, _, _ => false
def chkC : Option E → Inf → List Expr → Bool
  | none, _, [] => true
  | some e, t, [e'] => notIf e' && chkE e t e'
  | _, _, _ => false
def chkI : I → Inf → Expr → Expr → Bool
  | .seq e, t, _, e' => !isBrw e && chkE e t e'
  | .rng1 a, t, _, e' => match asCall1 e' with
    | some (x, a') => decide (x = "range") && t.gl x && !isBrw a && notStar a' && chkE a t a'
    | none => false
  | .rng2 a b, t, _, e' => match asCall2 e' with
    | some (x, a', b') => decide (x = "range") && t.gl x && !isBrw a && !isBrw b && notStar a' && notStar b' && chkE a t a' && chkE b t b'
    | none => false
  | .enum e, t, tg, e' => match asCall1 e' with
    | some (x, a') => decide (x = "enumerate") && t.gl x && isTupE tg && !isBrw e && notStar a' && chkE e t a'
    | none => false
  | .zip a b, t, tg, e' => match asCall2 e' with
    | some (x, a', b') => decide (x = "zip") && t.gl x && isTupE tg && !isBrw a && !isBrw b && notStar a' && notStar b' && chkE a t a' && chkE b t b'
    | none => false
  | .rev e, t, _, e' => match asCall1 e' with
    | some (x, a') => decide (x = "reversed") && t.gl x && !isBrw e && notStar a' && chkE e t a'
    | none => false
end
end
end Vf

/-! V13 -/
set_option autoImplicit false
set_option linter.all false
set_option Elab.async false
set_option maxHeartbeats 4000000
set_option maxRecDepth 10000
/-! V13: expressions of the table are right. -/
namespace Vf
open PySem PySem.Spec PyProof.Rows L2

def bltN : List Str := ["len", "all", "any", "sum", "sorted", "list", "tuple", "int", "abs", "str", "bool", "dict", "reversed", "enumerate", "zip", "range", "isinstance", "repr"]
structure Fx (G : Sig) (C : Ctx) (t : Inf) : Prop where
  hN : C.X.N = t.N
  hsc : C.X.env.scope = t.sc
  nd : C.X.N.Nodup
  kind : C.X.env.scope.kind = .function
  fn : ∀ x, C.X.fn x = (match t.own with | none => true | some s => s.names.lookup x == some .cell)
  calm : t.calm = true → C.X.calm = true ∧ C.xh = none
  hu : C.X.A.units + 64 < cLine
  gd : C.X.A.guards = some []
  hu2 : C.X.A.units + 128 < cLine
  tk : Takes C.X C.W
  blt : ∀ x ∈ bltN, C.X.mg x = none
  gls : ∀ x d, C.Φ.gl x = some d → ∃ v u, C.X.mg x = some u ∧ RelV v u ∧ ∀ s, Rep C.K C.w s d v []
  fns : t.calm = true → ∀ f np, G.lookup f = some np → ∃ k fa fd ps, C.X.mg f = some (.ref fa) ∧ PySem.W.keepIn C.X.K (.ref fa) = true ∧ Binds C.X.K fd ps [] ∧ Room k C.X.A ∧
    FnG C.X.prog C.X.w C.X.K C.X.mg C.X.base k fa fd ps (SpF C.K C.w C.X.mg C.cls np (C.Φ.fn f))
  fld : t.calm = false → ∀ (i : Nat) (x f : Str) (p1 p2 : Pos), t.see i x = true → OkE C (.Attribute (.Name x p1) f p2) (evE C.Φ (.fld i f))
  isE : t.calm = false → ∀ (i : Nat) (x c : Str) (p p1 p2 pos : Pos), t.see i x = true → t.gl "isinstance" = true → t.gl c = true → OkE C (.Call (.Name "isinstance" p) [.Name x p1, .Name c p2] [] pos) (evE C.Φ (.isE i c))
section
variable {G : Sig} {C : Ctx} {t : Inf}
theorem Fx.blk (F : Fx G C t) (hc : t.calm = true) {scope : Scope} (hk : scope.kind = .function) (s : Shared) (H : Hp) (a : Addr) (cl : List (Str × Addr)) (fp : List Addr) : Fx G (C.blk s H scope (compEnvC scope cl a C.X.env) fp) (t.blk scope) where
  hN := F.hN
  hsc := by
    show relS scope C.X.env.scope = relS scope t.sc
    rw [F.hsc]
  nd := F.nd
  kind := hk
  fn := fun _ => rfl
  calm := F.calm
  fld := fun h => absurd (hc.symm.trans h) (by decide)
  isE := fun h => absurd (hc.symm.trans h) (by decide)
  hu := F.hu
  gd := F.gd
  hu2 := F.hu2
  tk := takes0
  blt := F.blt
  gls := F.gls
  fns := F.fns
theorem at_ok (F : Fx G C t) {i : Nat} {x : Str} (h : t.at_ i x = true) : C.X.N[i]? = some x ∧ (x == ("__debug__" : Str)) = false ∧ (x == ("__classdict__" : Str)) = false := by
  unfold Inf.at_ at h
  simp only [Bool.and_eq_true, Bool.not_eq_true', decide_eq_true_eq] at h
  exact ⟨by rw [F.hN]; exact h.1.1, h.1.2, h.2⟩
theorem see_ok (F : Fx G C t) {i : Nat} {x : Str} (h : t.see i x = true) : C.X.N[i]? = some x ∧ Vis C.X.env.scope x ∧ (x == ("__debug__" : Str)) = false ∧ (x == ("__classdict__" : Str)) = false := by
  unfold Inf.see at h
  obtain ⟨h1, h2⟩ := Bool.and_eq_true_iff.mp h
  obtain ⟨a, b, c⟩ := at_ok F h1
  refine ⟨a, ?_, b, c⟩
  simp only [Bool.or_eq_true, decide_eq_true_eq] at h2
  unfold Vis
  rw [F.hsc]
  rcases h2 with (h2 | h2) | h2
  · exact .inl h2
  · exact .inr (.inl h2)
  · exact .inr (.inr h2)
theorem sto_ok (F : Fx G C t) {i : Nat} {x : Str} (h : t.sto i x = true) : C.X.N[i]? = some x ∧ L2.Loc C.X.env.scope x ∧ (C.X.fn x = true ∨ C.X.env.scope.names.lookup x = some .local) := by
  unfold Inf.sto at h
  obtain ⟨h1, h2⟩ := Bool.and_eq_true_iff.mp h
  obtain ⟨a, b, c⟩ := at_ok F h1
  refine ⟨a, ?_⟩
  unfold L2.Loc
  rw [F.hsc, F.fn]
  rcases Bool.or_eq_true_iff.mp h2 with h2 | h2
  · have h2 := of_decide_eq_true h2
    exact ⟨.inl h2, .inr h2⟩
  · obtain ⟨h3, h4⟩ := Bool.and_eq_true_iff.mp h2
    exact ⟨.inr (of_decide_eq_true h3), .inl h4⟩
theorem gl_ok (F : Fx G C t) {x : Str} (h : t.gl x = true) : Gl C.X x ∧ (x == ("__debug__" : Str)) = false := by
  unfold Inf.gl at h
  simp only [Bool.and_eq_true, Bool.not_eq_true', decide_eq_true_eq] at h
  refine ⟨?_, h.2⟩
  show C.X.env.scope.names.lookup x = some .globalImplicit
  rw [F.hsc]
  exact h.1
mutual
theorem okT (F : Fx G C t) : ∀ (g : T) (e : Expr), chkT g t e = true → OkG C e g
  | .nm i, e, h => by
    cases e with
    | Name x p =>
      obtain ⟨a, b, c⟩ := sto_ok F h
      exact ok_gname F.nd a b c
    | _ => cases h
  | .tup ts, e, h => by
    cases e with
    | Tuple es k p =>
      have h : (t.calm && decide (es.length = ts.length) && es.all notStar && chkTs ts t es) = true := h
      simp only [Bool.and_eq_true, decide_eq_true_eq] at h
      exact ok_gtup (F.calm h.1.1.1).1 (okTs F ts es h.2) h.1.1.2 h.1.2
    | _ => cases h
theorem okTs (F : Fx G C t) : ∀ (gs : List T) (es : List Expr), chkTs gs t es = true → OkGs C es gs
  | [], [], _ => ok_gnil
  | [], _ :: _, h => by cases h
  | _ :: _, [], h => by cases h
  | g :: gs, e :: es, h => by
    have h : (chkT g t e && chkTs gs t es) = true := h
    obtain ⟨h1, h2⟩ := Bool.and_eq_true_iff.mp h
    exact ok_gcons (okT F g e h1) (okTs F gs es h2) (by cases e <;> first | rfl | (cases g <;> cases h1))
end
theorem ok_never {e : Expr} {f : Env → M D} (h : ∀ ρ μ, f ρ μ = .bad) : OkE C e f := ⟨fun pins s σ H Q I ⟨s0, ρ, own, μ, _, _, q⟩ => by
  rw [h] at q; exact q.elim⟩
def isBoolE : Expr → Bool
  | .BoolOp .. => true
  | _ => false
structure Snd (C : Ctx) (e : E) (e' : Expr) : Prop where
  val : isBrw e = false → OkE C e' (evE C.Φ e)
  opd : OkB C e' (fun ρ => M.bind (evE C.Φ e ρ) (opnd (isBrw e)))
  tst : notIf e' = true → OkT C e' (fun ρ => M.bind (M.bind (evE C.Φ e ρ) (opnd (isBrw e))) tests)
  bl : isBoolE e' = true → OkW C e' (asT (evE C.Φ e))
theorem plain_nb {e : Expr} (h : plainT e = true) : isBoolE e = false := by
  cases e <;> first | rfl | cases h
/-- a plain expression -/
theorem Snd.of {e : E} {e' : Expr} (hb : isBrw e = false) (hp : plainT e' = true) (h : OkE C e' (evE C.Φ e)) : Snd C e e' := by
  have o : OkB C e' (fun ρ => M.bind (evE C.Φ e ρ) (opnd (isBrw e))) := by rw [hb]; exact ok_opnd h
  exact ⟨fun _ => h, o, fun _ => ok_truth o hp, fun z => by rw [plain_nb hp] at z; cases z⟩
/-- one with its own test -/
theorem Snd.ofT {e : E} {e' : Expr} (hb : isBrw e = false) (hn : isBoolE e' = false) (h : OkE C e' (evE C.Φ e)) (ht : OkT C e' (asT (evE C.Φ e))) : Snd C e e' :=
  ⟨fun _ => h, by rw [hb]; exact ok_opnd h, fun _ => by rw [hb]; exact ht, fun z => by rw [hn] at z; cases z⟩
theorem Snd.ofW {e : E} {e' : Expr} (hb : isBrw e = false) (h : OkE C e' (evE C.Φ e)) (ht : OkW C e' (asT (evE C.Φ e))) : Snd C e e' :=
  ⟨fun _ => h, by rw [hb]; exact ok_opnd h, fun _ => by rw [hb]; exact ht.pt, fun _ => ht⟩
/-- one that is no test -/
theorem Snd.ofV {e : E} {e' : Expr} (hb : isBrw e = false) (hn : isBoolE e' = false) (hi : notIf e' = false) (h : OkE C e' (evE C.Φ e)) : Snd C e e' :=
  ⟨fun _ => h, by rw [hb]; exact ok_opnd h, (fun z => by rw [hi] at z; cases z), (fun z => by rw [hn] at z; cases z)⟩
theorem Snd.tstA {e : E} {e' : Expr} (h : Snd C e e') (hi : notIf e' = true) (hb : isBrw e = false) : OkT C e' (asT (evE C.Φ e)) := by
  have := h.tst hi
  rw [hb] at this
  exact this
theorem evEs_len {Φ : Cfg} : ∀ {es : List E} {ρ : Env} {μ μ' : Sto} {ds : List D}, evEs Φ es ρ μ = .ok ds μ' → ds.length = es.length
  | [], _, _, _, _, h => by cases h; rfl
  | e :: es, ρ, μ, μ', ds, h => by
    obtain ⟨d, μ1, _, h⟩ := bind_ok (show M.bind (evE Φ e ρ) (fun d => M.bind (evEs Φ es ρ) fun ds => M.ret (d :: ds)) μ = .ok ds μ' from h)
    obtain ⟨ds', μ2, h1, h⟩ := bind_ok h
    cases h
    rw [List.length_cons, List.length_cons, evEs_len h1]
theorem bm {x : Str} (F : Fx G C t) (h : x ∈ bltN) : C.X.mg x = none := F.blt x h
def opO : Bop → Operator
  | .add => .Add | .sub => .Sub | .mul => .Mult | .fdiv => .FloorDiv | .mod => .Mod | .pow => .Pow
theorem opB_ok {op' : Operator} {op : Bop} (h : opB op' op = true) : op' = opO op := by
  cases op <;> cases op' <;> first | rfl | cases h
theorem chkEs_ns : ∀ {es : List E} {es' : List Expr}, chkEs G es t es' = true → es'.length = es.length ∧ es'.all notStar = true
  | [], [], _ => ⟨rfl, rfl⟩
  | [], _ :: _, h => by cases h
  | _ :: _, [], h => by cases h
  | e :: es, e' :: es', h => by
    have h : (!isBrw e && notStar e' && chkE G e t e' && chkEs G es t es') = true := h
    simp only [Bool.and_eq_true] at h
    obtain ⟨a, b⟩ := chkEs_ns h.2
    exact ⟨by rw [List.length_cons, a, List.length_cons], by rw [List.all_cons, h.1.1.2, b]; rfl⟩
/-- a call of a built-in with one argument -/
theorem okBlt (F : Fx G C t) {b : Blt} {e : E} {a' : Expr} {p pos : Pos} (hb : b ≠ .lenum) (hb2 : b ≠ .trev) (hc : (!needCalm b || t.calm) = true) (hg : Gl C.X (bltS b)) (hs : notStar a' = true) (ha : Snd C e a') : OkE C (.Call (.Name (bltS b) p) [a'] [] pos) (evE C.Φ (.blt b e)) := by
  cases b with
  | len => exact ok_blt (bltD .len) call_len hg (bm F (by decide)) PySem.boot_len (by decide) (by decide) ha.opd hs fun σ s μ x vx Q W r h => kLen W r h
  | all => exact ok_blt (bltD .all) (cr_all (F.calm hc).1) hg (bm F (by decide)) (by decide +kernel) (by decide) (by decide) ha.opd hs fun σ s μ x vx Q W r h => kAll W r h
  | any => exact ok_blt (bltD .any) (cr_any (F.calm hc).1) hg (bm F (by decide)) (by decide +kernel) (by decide) (by decide) ha.opd hs fun σ s μ x vx Q W r h => kAny W r h
  | sum => exact ok_blt (bltD .sum) (cr_sum (F.calm hc).1) hg (bm F (by decide)) (by decide +kernel) (by decide) (by decide) ha.opd hs fun σ s μ x vx Q W r h => kSum W r h
  | sorted => exact ok_blt (bltD .sorted) (cr_sortAll (F.calm hc).1) hg (bm F (by decide)) (by decide +kernel) (by decide) (by decide) ha.opd hs fun σ s μ x vx Q W r h => kSorted W r h
  | list => exact ok_bltT (bltD .list) call_list_of hg (bm F (by decide)) (by decide +kernel) (by decide) (by decide) ha.opd hs fun σ s μ x vx Q W r h => kList W r h
  | tuple => exact ok_bltT (bltD .tuple) call_tuple_of hg (bm F (by decide)) (by decide +kernel) (by decide) (by decide) ha.opd hs fun σ s μ x vx Q W r h => kTuple W r h
  | int => exact ok_bltT (bltD .int) call_int1 hg (bm F (by decide)) (by decide +kernel) (by decide) (by decide) ha.opd hs fun σ s μ x vx Q W r h => kInt W r h
  | abs => exact ok_blt (bltD .abs) call_abs hg (bm F (by decide)) (by decide +kernel) (by decide) (by decide) ha.opd hs fun σ s μ x vx Q W r h => kAbs W r h
  | str => exact ok_bltT (bltD .str) call_str_int hg (bm F (by decide)) (by decide +kernel) (by decide) (by decide) ha.opd hs fun σ s μ x vx Q W r h => kStr W r h
  | repr => exact ok_blt (bltD .repr) (cr_repr F.gd F.hu) hg (bm F (by decide)) (by decide +kernel) (by decide) (by decide) ha.opd hs fun σ s μ x vx Q W r h => kRepr W r h
  | sortd => exact ok_blt (bltD .sortd) (cr_sortD F.hu2) hg (bm F (by decide)) (by decide +kernel) (by decide) (by decide) ha.opd hs fun σ s μ x vx Q W r h => kSortD W r h
  | lenum => exact absurd rfl hb
  | trev => exact absurd rfl hb2
theorem ok_trev {a' : Expr} {f : Env → M D} {p p2 pos pos2 : Pos} (hc : C.X.calm = true) (hg : Gl C.X "tuple") (hm : C.X.mg "tuple" = none) (hg2 : Gl C.X "reversed") (hm2 : C.X.mg "reversed" = none) (ha : OkB C a' f) (hs : notStar a' = true) :
    OkE C (.Call (.Name "tuple" p) [.Call (.Name "reversed" p2) [a'] [] pos2] [] pos) (fun ρ => M.bind (f ρ) (bltD .trev)) :=
  PE_imp (RT.pe_tupRev hc hg hm hg2 hm2 ha (notStar_ok hs [] _)) fun σ H Q ⟨s, ρ, own, μ, e1, p, q⟩ => ⟨s, ρ, own, μ, e1, p, q.bind.mono fun x μ1 h1 v s1 p1 => by
    cases x with
    | lst b ds =>
      obtain ⟨a, vs, ev, hq, r⟩ := p1.rep
      have h1 : ResG C σ (M.ret (D.tup ds.reverse) μ1) _ := h1
      exact ⟨a, vs, ev, hq.sq, fun p' hp => h1.ret (.ref p') (s1.tup p' (.tup vs.reverse)) [] (Post.newT p1.ev p1.wd r.rev List.nodup_nil (fun _ z => nomatch z) hp)⟩
    | _ => exact h1.elim⟩
end

section
variable {G : Sig} {C : Ctx} {t : Inf}
theorem chkBs_ok (F : Fx G C t) : ∀ {es : List E} {es' : List Expr}, chkBs G es t es' = true → ∃ is : List Nat, es'.length = is.length ∧
    (∀ j : Nat, ∀ e' i, es'[j]? = some e' → is[j]? = some i → ∃ x p, e' = .Name x p ∧ C.X.N[i]? = some x ∧ Vis C.X.env.scope x ∧ (x == ("__debug__" : Str)) = false ∧ (x == ("__classdict__" : Str)) = false) ∧
    es.length = is.length ∧ ∀ ρ, evEs C.Φ es ρ = brwsK is ρ
  | [], [], _ => ⟨[], rfl, fun j e' i h => by simp at h, rfl, fun ρ => rfl⟩
  | [], _ :: _, h => by cases h
  | e :: es, [], h => by cases e <;> cases h
  | e :: es, e' :: es', h => by
    cases e with
    | brw i =>
      cases e' with
      | Name x p =>
        obtain ⟨h1, h2⟩ := Bool.and_eq_true_iff.mp (show (t.see i x && chkBs G es t es') = true from h)
        obtain ⟨is, a, b, c, d⟩ := chkBs_ok F h2
        refine ⟨i :: is, by rw [List.length_cons, List.length_cons, a], fun j e2 i2 h3 h4 => ?_, by rw [List.length_cons, List.length_cons, c], fun ρ => ?_⟩
        · cases j with
          | zero =>
            simp at h3 h4
            subst h3 h4
            obtain ⟨q1, q2, q3, q4⟩ := see_ok F h1
            exact ⟨x, p, rfl, q1, q2, q3, q4⟩
          | succ j => exact b j e2 i2 (by simpa using h3) (by simpa using h4)
        · show M.bind _ (fun d => M.bind (evEs C.Φ es ρ) fun ds => M.ret (d :: ds)) = _
          rw [d ρ]
          rfl
      | _ => cases h
    | _ => cases e' <;> cases h
end
/-! ### every expression -/
section
variable {G : Sig}
theorem okO_of {e : E} {e' : Expr} {C : Ctx} (h : OkE C e' (evE C.Φ e)) : OkO C (some e') (evO C.Φ (some e)) := ok_osome h
mutual
theorem okE {C : Ctx} {t : Inf} (F : Fx G C t) : ∀ (e : E) (e' : Expr), chkE G e t e' = true → Snd C e e'
  | .var i, e', h => by
    cases e' with
    | Name x p =>
      obtain ⟨a, b, c, d⟩ := see_ok F h
      exact Snd.of rfl rfl (ok_var a b c d)
    | _ => cases h
  | .brw i, e', h => by
    cases e' with
    | Name x p =>
      obtain ⟨a, b, c, d⟩ := see_ok F h
      have o := ok_brw (pos := p) a b c d
      exact ⟨(fun z => nomatch z), o, fun _ => ok_truth o rfl, (fun z => nomatch z)⟩
    | _ => cases h
  | .non, e', h => by
    cases e' with
    | Constant c j p => cases c <;> first | exact Snd.of rfl rfl (ok_const pe_non fun s => ⟨rfl, rfl⟩) | cases h
    | _ => cases h
  | .bl b, e', h => by
    cases e' with
    | Constant c j p =>
      cases c with
      | bool b' =>
        have e : b = b' := by simpa using (show (b == b') = true from h)
        subst e
        exact Snd.of rfl rfl (ok_const pe_bl fun s => ⟨rfl, rfl⟩)
      | _ => cases h
    | _ => cases h
  | .int i, e', h => by
    cases e' with
    | Constant c j p =>
      cases c with
      | int b' =>
        have e := of_decide_eq_true (show decide (i = b') = true from h)
        subst e
        exact Snd.of rfl rfl (ok_const pe_int fun s => ⟨rfl, rfl⟩)
      | _ => cases h
    | _ => cases h
  | .str i, e', h => by
    cases e' with
    | Constant c j p =>
      cases c with
      | str b' =>
        have e := of_decide_eq_true (show decide (i = b') = true from h)
        subst e
        exact Snd.of rfl rfl (ok_const pe_str fun s => ⟨rfl, rfl⟩)
      | _ => cases h
    | _ => cases h
  | .glob x, e', h => by
    cases e' with
    | Name y p =>
      obtain ⟨h1, h2⟩ := Bool.and_eq_true_iff.mp (show (decide (x = y) && t.gl x) = true from h)
      have e := of_decide_eq_true h1
      subst e
      obtain ⟨hg, hd⟩ := gl_ok F h2
      cases hl : C.Φ.gl x with
      | none => exact Snd.of rfl rfl (ok_never fun ρ μ => by show ofO (C.Φ.gl x) μ = .bad; rw [hl]; rfl)
      | some d =>
        obtain ⟨v, u, a, b, c⟩ := F.gls x d hl
        exact Snd.of rfl rfl (ok_glob hg a b hd c hl)
    | _ => cases h
  | .bin op a b, e', h => by
    cases e' with
    | BinOp a' op' b' p =>
      have h : (opB op' op && chkE G a t a' && chkE G b t b') = true := h
      simp only [Bool.and_eq_true] at h
      have ha := okE F a a' h.1.2
      have hb := okE F b b' h.2
      have e := opB_ok h.1.1
      subst e
      cases op with
      | add => exact Snd.of rfl rfl (ok_add ha.opd hb.opd)
      | sub => exact Snd.of rfl rfl (ok_sub ha.opd hb.opd)
      | mul => exact Snd.of rfl rfl (ok_mul ha.opd hb.opd)
      | fdiv => exact Snd.of rfl rfl (ok_fdiv ha.opd hb.opd)
      | mod => exact Snd.of rfl rfl (ok_mod ha.opd hb.opd)
      | pow => exact Snd.of rfl rfl (ok_pow ha.opd hb.opd)
    | _ => cases h
  | .addM a b, e', h => by
    cases e' with
    | BinOp a' op' b' p =>
      have h : (opB op' .add && !isBrw a && !isBrw b && chkE G a t a' && chkE G b t b') = true := h
      simp only [Bool.and_eq_true, Bool.not_eq_true'] at h
      obtain ⟨⟨⟨⟨h1, h2⟩, h3⟩, h4⟩, h5⟩ := h
      have e := opB_ok h1
      subst e
      exact Snd.of rfl rfl (ok_addM ((okE F a a' h4).val h2) ((okE F b b' h5).val h3))
    | _ => cases h
  | .neg a, e', h => by
    cases e' with
    | UnaryOp op a' p =>
      cases op with
      | USub =>
        obtain ⟨h1, h2⟩ := Bool.and_eq_true_iff.mp (show (!isBrw a && chkE G a t a') = true from h)
        exact Snd.of rfl rfl (ok_neg ((okE F a a' h2).val (by simpa using h1)))
      | _ => cases h
    | _ => cases h
  | .not a, e', h => by
    cases e' with
    | UnaryOp op a' p =>
      cases op with
      | Not =>
        obtain ⟨h1, h2⟩ := Bool.and_eq_true_iff.mp (show (notIf a' && chkE G a t a') = true from h)
        have ha := okE F a a' h2
        exact Snd.ofT rfl rfl (ok_not ha.opd) (ok_tnot (t := fun _ => M.bad) (ha.tst h1))
      | _ => cases h
    | _ => cases h
  | .and a b, e', h => by
    cases e' with
    | BoolOp op vs p =>
      cases op with
      | And =>
        match vs, h with
        | x :: y :: r, h =>
          have h : (!isBrw a && !isBrw b && notIf x && notIf (restE .And y r p) && chkE G a t x && chkE G b t (restE .And y r p)) = true := h
          simp only [Bool.and_eq_true, Bool.not_eq_true'] at h
          obtain ⟨⟨⟨⟨⟨h1, h2⟩, h3⟩, h4⟩, h5⟩, h6⟩ := h
          have ha := okE F a x h5
          have hb := okE F b _ h6
          have rest : OkE C (.BoolOp .And (y :: r) p) (evE C.Φ b) ∧ OkW C (.BoolOp .And (y :: r) p) (asT (evE C.Φ b)) := by
            cases r with
            | nil => exact ⟨ok_one (hb.val h2), ok_w1 (hb.tstA h4 h2)⟩
            | cons z r => exact ⟨hb.val h2, hb.bl rfl⟩
          exact Snd.ofW rfl (ok_and (ha.val h1) rest.1) (ok_tand (ha.tstA h3 h1) rest.2)
        | [], h => cases h
        | [_], h => cases h
      | Or => cases h
    | _ => cases h
  | .or a b, e', h => by
    cases e' with
    | BoolOp op vs p =>
      cases op with
      | Or =>
        match vs, h with
        | x :: y :: r, h =>
          have h : (!isBrw a && !isBrw b && notIf x && notIf (restE .Or y r p) && chkE G a t x && chkE G b t (restE .Or y r p)) = true := h
          simp only [Bool.and_eq_true, Bool.not_eq_true'] at h
          obtain ⟨⟨⟨⟨⟨h1, h2⟩, h3⟩, h4⟩, h5⟩, h6⟩ := h
          have ha := okE F a x h5
          have hb := okE F b _ h6
          have rest : OkE C (.BoolOp .Or (y :: r) p) (evE C.Φ b) ∧ OkW C (.BoolOp .Or (y :: r) p) (asT (evE C.Φ b)) := by
            cases r with
            | nil => exact ⟨ok_one (hb.val h2), ok_w1 (hb.tstA h4 h2)⟩
            | cons z r => exact ⟨hb.val h2, hb.bl rfl⟩
          exact Snd.ofW rfl (ok_or (ha.val h1) rest.1) (ok_tor (ha.tstA h3 h1) rest.2)
        | [], h => cases h
        | [_], h => cases h
      | And => cases h
    | _ => cases h
  | .cmp op a b, e', h => by
    cases e' with
    | Compare a' ops bs p =>
      match ops, bs, h with
      | [op'], [b'], h =>
        have h : (decide (op' = copOf op) && notSet b' && chkE G a t a' && chkE G b t b') = true := h
        simp only [Bool.and_eq_true, decide_eq_true_eq] at h
        obtain ⟨⟨⟨e, h1⟩, h2⟩, h3⟩ := h
        subst e
        have ha := okE F a a' h2
        have hb := okE F b b' h3
        exact Snd.ofT rfl rfl (ok_cmp F.hu2 op ha.opd hb.opd h1) (ok_tcmp F.hu2 op ha.opd hb.opd h1)
      | [], _, h => cases h
      | _ :: _ :: _, [], h => cases h
      | _ :: _ :: _, _ :: _, h => cases h
      | [_], [], h => cases h
      | [_], _ :: _ :: _, h => cases h
    | _ => cases h
  | .chain op op2 a b c, e', h => by
    cases e' with
    | Compare a' ops bs p =>
      match ops, bs, h with
      | [op', op2'], [b', c'], h =>
        have h : (decide (op' = copOf op) && decide (op2' = copOf op2) && notSet c' && chkE G a t a' && chkE G b t b' && chkE G c t c') = true := h
        simp only [Bool.and_eq_true, decide_eq_true_eq] at h
        obtain ⟨⟨⟨⟨⟨e, e2⟩, h1⟩, h2⟩, h3⟩, h4⟩ := h
        subst e e2
        have ha := okE F a a' h2
        have hb := okE F b b' h3
        have hc := okE F c c' h4
        exact Snd.ofT rfl rfl (ok_chain F.hu2 op op2 ha.opd hb.opd hc.opd h1) (ok_tchain F.hu2 op op2 ha.opd hb.opd hc.opd h1)
      | [], _, h => cases h
      | [_], _, h => cases h
      | _ :: _ :: _ :: _, [], h => cases h
      | _ :: _ :: _ :: _, _ :: _, h => cases h
      | [_, _], [], h => cases h
      | [_, _], [_], h => cases h
      | [_, _], _ :: _ :: _ :: _, h => cases h
    | _ => cases h
  | .ife c a b, e', h => by
    cases e' with
    | IfExp c' a' b' p =>
      have h : (notIf c' && !isBrw a && !isBrw b && chkE G c t c' && chkE G a t a' && chkE G b t b') = true := h
      simp only [Bool.and_eq_true, Bool.not_eq_true'] at h
      obtain ⟨⟨⟨⟨⟨h0, h1⟩, h2⟩, h3⟩, h4⟩, h5⟩ := h
      exact Snd.ofV rfl rfl rfl (ok_ife ((okE F c c' h3).tst h0) ((okE F a a' h4).val h1) ((okE F b b' h5).val h2))
    | _ => cases h
  | .tup es, e', h => by
    cases e' with
    | Tuple es' k p => exact Snd.of rfl rfl (ok_tup (okEs F es es' h))
    | _ => cases h
  | .lst es, e', h => by
    cases e' with
    | List es' p => exact Snd.of rfl rfl (ok_lst (okEs F es es' h))
    | _ => cases h
  | .newRef es, e', h => by
    cases e' with
    | List es' p => exact Snd.of rfl rfl (ok_newRef (okEs F es es' h))
    | _ => cases h
  | .dct0, e', h => by
    cases e' with
    | Dict ks vs p =>
      match ks, vs, h with
      | [], [], h => exact Snd.of rfl rfl ok_dct0
      | [], _ :: _, h => cases h
      | _ :: _, [], h => cases h
      | _ :: _, _ :: _, h => cases h
    | _ => cases h
  | .dct1 k v, e', h => by
    replace h : (match asDct1 e' with
      | some (k', v') => !isBrw k && !isBrw v && chkE G k t k' && chkE G v t v'
      | none => false) = true := h
    cases ea : asDct1 e' with
    | none => rw [ea] at h; cases h
    | some z =>
      obtain ⟨k', v'⟩ := z
      rw [ea] at h
      simp only [Bool.and_eq_true, Bool.not_eq_true'] at h
      obtain ⟨p, rfl⟩ := asDct1_ok ea
      exact Snd.of rfl rfl (ok_dct1 ((okE F k k' h.1.2).val h.1.1.1) ((okE F v v' h.2).val h.1.1.2))
  | .at0 i c, e', h => by
    cases e' with
    | Subscript a' i' p =>
      cases a' with
      | Name x px =>
        cases i' with
        | Constant k n pc =>
          cases k with
          | int c' =>
            have h : (decide (c' = c) && t.see i x) = true := h
            obtain ⟨h1, h2⟩ := Bool.and_eq_true_iff.mp h
            have h1 := of_decide_eq_true h1
            subst h1
            obtain ⟨a1, a2, a3, a4⟩ := see_ok F h2
            exact Snd.of rfl rfl (ok_at0 a1 a2 a3 a4)
          | _ => cases h
        | _ => cases h
      | _ => cases h
    | _ => cases h
  | .idx a i, e', h => by
    cases e' with
    | Subscript a' i' p =>
      have h : (!isBrw i && notSlice i' && chkE G a t a' && chkE G i t i') = true := h
      simp only [Bool.and_eq_true, Bool.not_eq_true'] at h
      exact Snd.of rfl rfl (ok_idx F.hu (okE F a a' h.1.2).opd ((okE F i i' h.2).val h.1.1.1) h.1.1.2)
    | _ => cases h
  | .slc a lo hi, e', h => by
    cases e' with
    | Subscript a' i' p =>
      cases i' with
      | Slice lo' hi' st p2 =>
        cases st with
        | none =>
          have h : (chkE G a t a' && chkO G lo t lo' && chkO G hi t hi') = true := h
          simp only [Bool.and_eq_true] at h
          exact Snd.of rfl rfl (ok_slc (okE F a a' h.1.1).opd (okO F lo lo' h.1.2) (okO F hi hi' h.2))
        | some _ => cases h
      | _ => cases h
    | _ => cases h
  | .rev a, e', h => by
    replace h : (match asRev e' with
      | some a' => chkE G a t a'
      | none => false) = true := h
    cases ea : asRev e' with
    | none => rw [ea] at h; cases h
    | some a' =>
      rw [ea] at h
      simp only [Bool.and_eq_true, Bool.not_eq_true', decide_eq_true_eq] at h
      obtain ⟨k, p1, p2, p3, p, rfl⟩ := asRev_ok ea
      exact Snd.of rfl rfl (ok_rev (okE F a a' h).opd)
  | .isi a ty, e', h => by
    replace h : (match asIsi e' with
      | some (x, a', y) => decide (x = "isinstance") && decide (y = Str.ofString (tyN ty)) && t.gl x && t.gl y && notStar a' && chkE G a t a'
      | none => false) = true := h
    cases ea : asIsi e' with
    | none => rw [ea] at h; cases h
    | some z =>
      obtain ⟨x, a', y⟩ := z
      rw [ea] at h
      simp only [Bool.and_eq_true, Bool.not_eq_true', decide_eq_true_eq] at h
      obtain ⟨p, q, r, rfl⟩ := asIsi_ok ea
      obtain ⟨⟨⟨⟨⟨rfl, rfl⟩, h3⟩, h4⟩, h5⟩, h6⟩ := h
      exact Snd.of rfl rfl (ok_isi ty (gl_ok F h3).1 (bm F (by decide)) (gl_ok F h4).1 (bm F (by cases ty <;> decide)) (okE F a a' h6).opd h5)
  | .fld i f, e', h => by
    replace h : (match asFld e' with
      | some (x, f') => decide (f' = f) && !t.calm && t.see i x
      | none => false) = true := h
    cases ea : asFld e' with
    | none => rw [ea] at h; cases h
    | some z =>
      obtain ⟨x, f'⟩ := z
      rw [ea] at h
      simp only [Bool.and_eq_true, Bool.not_eq_true', decide_eq_true_eq] at h
      obtain ⟨p, q, rfl⟩ := asFld_ok ea
      obtain ⟨⟨rfl, h2⟩, h3⟩ := h
      exact Snd.of rfl rfl (F.fld h2 i x _ p q h3)
  | .isE i c, e', h => by
    replace h : (match asIsE e' with
      | some (z, x, y) => decide (z = "isinstance") && decide (y = c) && !t.calm && t.see i x && t.gl z && t.gl y
      | none => false) = true := h
    cases ea : asIsE e' with
    | none => rw [ea] at h; cases h
    | some z =>
      obtain ⟨z, x, y⟩ := z
      rw [ea] at h
      simp only [Bool.and_eq_true, Bool.not_eq_true', decide_eq_true_eq] at h
      obtain ⟨p, q, r, u, rfl⟩ := asIsE_ok ea
      obtain ⟨⟨⟨⟨⟨rfl, rfl⟩, h2⟩, h3⟩, h4⟩, h5⟩ := h
      exact Snd.of rfl rfl (F.isE h2 i x _ p q r u h3 h4 h5)
  | .call f es, e', h => by
    replace h : (match asCall e' with
      | some (x, e1, es') => t.calm && decide (x = f) && t.gl x && decide (G.lookup f = some es.length) && chkEs G es t (e1 :: es')
      | none => false) = true := h
    cases ea : asCall e' with
    | none => rw [ea] at h; cases h
    | some z =>
      obtain ⟨x, e1, es'⟩ := z
      rw [ea] at h
      simp only [Bool.and_eq_true, Bool.not_eq_true', decide_eq_true_eq] at h
      obtain ⟨p, r, rfl⟩ := asCall_ok ea
      obtain ⟨⟨⟨⟨hc, rfl⟩, h2⟩, h3⟩, h4⟩ := h
      obtain ⟨k, fa, fd, ps, hm, hk, hb, hr, FO⟩ := F.fns hc _ _ h3
      obtain ⟨hl, hs⟩ := chkEs_ns h4
      exact Snd.of rfl rfl (ok_call F.gd FO hr (gl_ok F h2).1 hm hk hb F.tk (okEs F es _ h4) hl.symm (fun ρ μ ds μ' he => (evEs_len he).trans hl.symm) (gl_ok F h2).2 hs)
  | .callB f es, e', h => by
    replace h : (match asCall e' with
      | some (x, e1, es') => t.calm && decide (x = f) && t.gl x && decide (G.lookup f = some es.length) && (e1 :: es').all notStar && chkBs G es t (e1 :: es')
      | none => false) = true := h
    cases ea : asCall e' with
    | none => rw [ea] at h; cases h
    | some z =>
      obtain ⟨x, e1, es'⟩ := z
      rw [ea] at h
      simp only [Bool.and_eq_true, Bool.not_eq_true', decide_eq_true_eq] at h
      obtain ⟨p, r, rfl⟩ := asCall_ok ea
      obtain ⟨⟨⟨⟨⟨hc, rfl⟩, h2⟩, h3⟩, hs⟩, h4⟩ := h
      obtain ⟨k, fa, fd, ps, hm, hk, hb, hr, FO⟩ := F.fns hc _ _ h3
      obtain ⟨is, h5, h6, h7⟩ := chkBs_ok F h4
      have z := ok_callB (pos := r) (p := p) F.gd FO hr (gl_ok F h2).1 hm hk hb F.tk h6 h5 (by rw [h7.1]) (gl_ok F h2).2 hs
      refine Snd.of rfl rfl ?_
      show OkE C _ (fun ρ => M.bind (evEs C.Φ es ρ) fun ds μ => match C.Φ.fn x (D.fzL ds) [] with
        | .ok d _ => if d.flat && D.nrL ds then .ok d μ else .bad
        | _ => .bad)
      have e2 : (fun ρ => M.bind (evEs C.Φ es ρ) fun ds μ => match C.Φ.fn x (D.fzL ds) [] with
        | .ok d _ => if d.flat && D.nrL ds then .ok d μ else .bad
        | _ => .bad) = (fun ρ => M.bind (brwsK is ρ) fun ds μ => match C.Φ.fn x (D.fzL ds) [] with
        | .ok d _ => if d.flat && D.nrL ds then .ok d μ else .bad
        | _ => .bad) := by funext ρ; rw [h7.2 ρ]
      exact e2 ▸ z
  | .blt b e, e', h => by
    by_cases hb : b = .trev
    · subst hb
      replace h : (match asRevT e' with
        | some (x, y, a') => t.calm && decide (x = "tuple") && decide (y = "reversed") && t.gl x && t.gl y && notStar a' && chkE G e t a'
        | none => false) = true := h
      cases ea : asRevT e' with
      | none => rw [ea] at h; cases h
      | some z =>
        obtain ⟨x, y, a'⟩ := z
        rw [ea] at h
        simp only [Bool.and_eq_true, Bool.not_eq_true', decide_eq_true_eq] at h
        obtain ⟨p, q, r, u, rfl⟩ := asRevT_ok ea
        obtain ⟨⟨⟨⟨⟨⟨hc, rfl⟩, rfl⟩, h3⟩, h4⟩, h5⟩, h6⟩ := h
        exact Snd.of rfl rfl (ok_trev (F.calm hc).1 (gl_ok F h3).1 (bm F (by decide)) (gl_ok F h4).1 (bm F (by decide)) (okE F e a' h6).opd h5)
    · by_cases hb2 : b = .lenum
      · subst hb2
        replace h : (match asRevT e' with
          | some (x, y, a') => t.calm && decide (x = "list") && decide (y = "enumerate") && t.gl x && t.gl y && notStar a' && chkE G e t a'
          | none => false) = true := h
        cases ea : asRevT e' with
        | none => rw [ea] at h; cases h
        | some z =>
          obtain ⟨x, y, a'⟩ := z
          rw [ea] at h
          simp only [Bool.and_eq_true, Bool.not_eq_true', decide_eq_true_eq] at h
          obtain ⟨p, q, r, u, rfl⟩ := asRevT_ok ea
          obtain ⟨⟨⟨⟨⟨⟨hc, rfl⟩, rfl⟩, h3⟩, h4⟩, h5⟩, h6⟩ := h
          exact Snd.of rfl rfl (ok_lenum (F.calm hc).1 (gl_ok F h3).1 (bm F (by decide)) (gl_ok F h4).1 (bm F (by decide)) (okE F e a' h6).opd h5)
      · replace h : (match asCall1 e' with
          | some (x, a') => (!needCalm b || t.calm) && decide (x = bltS b) && t.gl x && notStar a' && chkE G e t a'
          | none => false) = true := by cases b <;> first | exact h | exact absurd rfl hb | exact absurd rfl hb2
        cases ea : asCall1 e' with
        | none => rw [ea] at h; cases h
        | some z =>
          obtain ⟨x, a'⟩ := z
          rw [ea] at h
          simp only [Bool.and_eq_true, decide_eq_true_eq] at h
          obtain ⟨p, r, rfl⟩ := asCall1_ok ea
          obtain ⟨⟨⟨⟨hc, rfl⟩, h2⟩, h3⟩, h4⟩ := h
          exact Snd.of rfl rfl (okBlt F hb2 hb hc (gl_ok F h2).1 h3 (okE F e a' h4))
  | .lc tg it c e, e', h => by
    replace h : (match asLc e' with
      | some (e1, tg', it', c', n, scope) => t.calm && decide (n = 0) && !isBrw e && notSetI it' && blkC t.N t.sc scope (ownOf t.N tg.ix) && chkI G it t tg' it' && chkT tg (t.blk scope) tg' && chkC G c (t.blk scope) c' && chkE G e (t.blk scope) e1
      | none => false) = true := h
    cases ea : asLc e' with
    | none => rw [ea] at h; cases h
    | some z =>
      obtain ⟨e1, tg', it', c', n, scope⟩ := z
      rw [ea] at h
      simp only [Bool.and_eq_true, Bool.not_eq_true', decide_eq_true_eq] at h
      obtain ⟨p, rfl⟩ := asLc_ok ea
      obtain ⟨⟨⟨⟨⟨⟨⟨⟨hc, rfl⟩, h2⟩, h3⟩, h4⟩, h5⟩, h6⟩, h7⟩, h8⟩ := h
      have ok := blkOk_by h4
      exact Snd.of rfl rfl (ok_lc (F.calm hc).1 F.nd (okI F it tg' it' h5) (by rw [F.hN, F.hsc]; exact ok) (ownOf_snd _ _) (fun s H a cl fp => okT (F.blk hc ok.kind s H a cl fp) tg tg' h6) (fun s H a cl fp => okC (F.blk hc ok.kind s H a cl fp) c c' h7) (fun s H a cl fp => (okE (F.blk hc ok.kind s H a cl fp) e e1 h8).val h2) h3)
  | .lc2 tg it tg2 it2 c e, e', h => by
    replace h : (match asLc2 e' with
      | some (e1, tg', it', n, tg2', it2', c', n2, scope) => t.calm && decide (n = 0) && decide (n2 = 0) && !isBrw e && notSetI it' && notSetI it2' && blkC t.N t.sc scope (ownOf t.N (tg.ix ++ tg2.ix)) && chkI G it t tg' it' && chkT tg (t.blk scope) tg'
      && chkI G it2 (t.blk scope) tg2' it2' && chkT tg2 (t.blk scope) tg2' && chkC G c (t.blk scope) c' && chkE G e (t.blk scope) e1
      | none => false) = true := h
    cases ea : asLc2 e' with
    | none => rw [ea] at h; cases h
    | some z =>
      obtain ⟨e1, tg', it', n, tg2', it2', c', n2, scope⟩ := z
      rw [ea] at h
      simp only [Bool.and_eq_true, Bool.not_eq_true', decide_eq_true_eq] at h
      obtain ⟨p, rfl⟩ := asLc2_ok ea
      obtain ⟨⟨⟨⟨⟨⟨⟨⟨⟨⟨⟨⟨hc, rfl⟩, rfl⟩, h2⟩, h3⟩, h3'⟩, h4⟩, h5⟩, h6⟩, h7⟩, h8⟩, h9⟩, h10⟩ := h
      have ok := blkOk_by h4
      exact Snd.of rfl rfl (ok_lc2 (F.calm hc).1 F.nd (okI F it tg' it' h5) (by rw [F.hN, F.hsc]; exact ok) (ownOf_snd _ _) (fun s H a cl fp => okT (F.blk hc ok.kind s H a cl fp) tg tg' h6) (fun s H a cl fp => okI (F.blk hc ok.kind s H a cl fp) it2 tg2' it2' h7) (fun s H a cl fp => okT (F.blk hc ok.kind s H a cl fp) tg2 tg2' h8) (fun s H a cl fp => okC (F.blk hc ok.kind s H a cl fp) c c' h9) (fun s H a cl fp => (okE (F.blk hc ok.kind s H a cl fp) e e1 h10).val h2) h3 h3')
theorem okEs {C : Ctx} {t : Inf} (F : Fx G C t) : ∀ (es : List E) (es' : List Expr), chkEs G es t es' = true → OkA C es' (evEs C.Φ es)
  | [], [], _ => ok_anil
  | [], _ :: _, h => by cases h
  | _ :: _, [], h => by cases h
  | e :: es, e' :: es', h => by
    have h : (!isBrw e && notStar e' && chkE G e t e' && chkEs G es t es') = true := h
    simp only [Bool.and_eq_true, Bool.not_eq_true'] at h
    exact ok_acons ((okE F e e' h.1.2).val h.1.1.1) (okEs F es es' h.2) h.1.1.2
theorem okO {C : Ctx} {t : Inf} (F : Fx G C t) : ∀ (e : Option E) (e' : Option Expr), chkO G e t e' = true → OkO C e' (evO C.Φ e)
  | none, none, _ => ok_onone
  | none, some _, h => by cases h
  | some _, none, h => by cases h
  | some e, some e', h => by
    obtain ⟨h1, h2⟩ := Bool.and_eq_true_iff.mp (show (!isBrw e && chkE G e t e') = true from h)
    exact ok_osome ((okE F e e' h2).val (by simpa using h1))
theorem okC {C : Ctx} {t : Inf} (F : Fx G C t) : ∀ (e : Option E) (e' : List Expr), chkC G e t e' = true → OkTs C e' (evC C.Φ e)
  | none, [], _ => ok_tsnil
  | none, _ :: _, h => by cases h
  | some _, [], h => by cases h
  | some _, _ :: _ :: _, h => by cases h
  | some e, [e'], h => by
    obtain ⟨h1, h2⟩ := Bool.and_eq_true_iff.mp (show (notIf e' && chkE G e t e') = true from h)
    exact ok_tsone ((okE F e e' h2).tst h1)
theorem okI {C : Ctx} {t : Inf} (F : Fx G C t) : ∀ (i : I) (tg e' : Expr), chkI G i t tg e' = true → OkI C tg e' (evI C.Φ i)
  | .seq e, tg, e', h => by
    obtain ⟨h1, h2⟩ := Bool.and_eq_true_iff.mp (show (!isBrw e && chkE G e t e') = true from h)
    have h1 : isBrw e = false := by simpa using h1
    have := ok_iseq (tg := tg) ((okE F e e' h2).val h1)
    show OkI C tg e' (fun ρ => M.bind (M.bind (evE C.Φ e ρ) (opnd (isBrw e))) items)
    rw [h1]
    exact this
  | .rng1 a, tg, e', h => by
    replace h : (match asCall1 e' with
      | some (x, a') => decide (x = "range") && t.gl x && !isBrw a && notStar a' && chkE G a t a'
      | none => false) = true := h
    cases ea : asCall1 e' with
    | none => rw [ea] at h; cases h
    | some z =>
      obtain ⟨x, a'⟩ := z
      rw [ea] at h
      simp only [Bool.and_eq_true, Bool.not_eq_true', decide_eq_true_eq] at h
      obtain ⟨p, r, rfl⟩ := asCall1_ok ea
      obtain ⟨⟨⟨⟨rfl, h2⟩, h3⟩, h4⟩, h5⟩ := h
      exact ok_irng1 (gl_ok F h2).1 (bm F (by decide)) ((okE F a a' h5).val h3) h4
  | .rng2 a b, tg, e', h => by
    replace h : (match asCall2 e' with
      | some (x, a', b') => decide (x = "range") && t.gl x && !isBrw a && !isBrw b && notStar a' && notStar b' && chkE G a t a' && chkE G b t b'
      | none => false) = true := h
    cases ea : asCall2 e' with
    | none => rw [ea] at h; cases h
    | some z =>
      obtain ⟨x, a', b'⟩ := z
      rw [ea] at h
      simp only [Bool.and_eq_true, Bool.not_eq_true', decide_eq_true_eq] at h
      obtain ⟨p, r, rfl⟩ := asCall2_ok ea
      obtain ⟨⟨⟨⟨⟨⟨⟨rfl, h2⟩, h3⟩, h4⟩, h5⟩, h6⟩, h7⟩, h8⟩ := h
      exact ok_irng2 (gl_ok F h2).1 (bm F (by decide)) ((okE F a a' h7).val h3) ((okE F b b' h8).val h4) h5 h6
  | .enum e, tg, e', h => by
    replace h : (match asCall1 e' with
      | some (x, a') => decide (x = "enumerate") && t.gl x && isTupE tg && !isBrw e && notStar a' && chkE G e t a'
      | none => false) = true := h
    cases ea : asCall1 e' with
    | none => rw [ea] at h; cases h
    | some z =>
      obtain ⟨x, a'⟩ := z
      rw [ea] at h
      simp only [Bool.and_eq_true, Bool.not_eq_true', decide_eq_true_eq] at h
      obtain ⟨p, r, rfl⟩ := asCall1_ok ea
      obtain ⟨⟨⟨⟨⟨rfl, h2⟩, ht⟩, h3⟩, h4⟩, h5⟩ := h
      cases tg with
      | Tuple elts kk tpos =>
        have z := ok_ienum (tpos := tpos) (elts := elts) (kk := kk) (p := p) (pos := r) (gl_ok F h2).1 (bm F (by decide)) ((okE F e a' h5).val h3) h4
        show OkI C _ _ (fun ρ => M.bind (M.bind (evE C.Φ e ρ) (opnd (isBrw e))) _)
        rw [h3]
        exact z
      | _ => cases ht
  | .zip a b, tg, e', h => by
    replace h : (match asCall2 e' with
      | some (x, a', b') => decide (x = "zip") && t.gl x && isTupE tg && !isBrw a && !isBrw b && notStar a' && notStar b' && chkE G a t a' && chkE G b t b'
      | none => false) = true := h
    cases ea : asCall2 e' with
    | none => rw [ea] at h; cases h
    | some z =>
      obtain ⟨x, a', b'⟩ := z
      rw [ea] at h
      simp only [Bool.and_eq_true, Bool.not_eq_true', decide_eq_true_eq] at h
      obtain ⟨p, r, rfl⟩ := asCall2_ok ea
      obtain ⟨⟨⟨⟨⟨⟨⟨⟨rfl, h2⟩, ht⟩, h3⟩, h4⟩, h5⟩, h6⟩, h7⟩, h8⟩ := h
      cases tg with
      | Tuple elts kk tpos =>
        have z := ok_izip (tpos := tpos) (elts := elts) (kk := kk) (p := p) (pos := r) (gl_ok F h2).1 (bm F (by decide)) ((okE F a a' h7).val h3) ((okE F b b' h8).val h4) h5 h6
        show OkI C _ _ (fun ρ => M.bind (M.bind (evE C.Φ a ρ) (opnd (isBrw a))) fun x => M.bind (M.bind (evE C.Φ b ρ) (opnd (isBrw b))) _)
        rw [h3, h4]
        exact z
      | _ => cases ht
  | .rev e, tg, e', h => by
    replace h : (match asCall1 e' with
      | some (x, a') => decide (x = "reversed") && t.gl x && !isBrw e && notStar a' && chkE G e t a'
      | none => false) = true := h
    cases ea : asCall1 e' with
    | none => rw [ea] at h; cases h
    | some z =>
      obtain ⟨x, a'⟩ := z
      rw [ea] at h
      simp only [Bool.and_eq_true, Bool.not_eq_true', decide_eq_true_eq] at h
      obtain ⟨p, r, rfl⟩ := asCall1_ok ea
      obtain ⟨⟨⟨⟨rfl, h2⟩, h3⟩, h4⟩, h5⟩ := h
      have z := ok_irev (tg := tg) (p := p) (pos := r) (gl_ok F h2).1 (bm F (by decide)) ((okE F e a' h5).val h3) h4
      show OkI C _ _ (fun ρ => M.bind (M.bind (evE C.Φ e ρ) (opnd (isBrw e))) _)
      rw [h3]
      exact z
end
end
end Vf

/-! VX -/
set_option autoImplicit false
set_option linter.all false
set_option Elab.async false
set_option maxHeartbeats 4000000
set_option maxRecDepth 10000
/-! VX: the caught exception. -/
namespace Vf
open PySem PySem.Spec PyProof.Rows L2

def rIsX (K : PySem.W.Frag) (D a : Addr) (d : Option Addr) : List V → Hp → VK → Prop := fun xs H Q => ∃ (c : V) (cv : Value) (b : Bool), xs = [.ref a, c] ∧ (∀ u, RelV c u → u = cv) ∧ PySem.W.kitOne K (.ref D) cv = some b ∧ (d = none ∨ ∃ dd fv, d = some dd ∧ H dd = some (.xd fv)) ∧ Q (.bl b) H
theorem call_isX {X : Cx} {a D : Addr} {oe : Obj} {d : Option Addr} {pn : List (Addr × Obj)} (C : ExcC X.K D) (hz : Zc (.ref D) d oe) (hf : ∃ vs, oe.data = .fields vs) : CallR (X.suite a ((a, oe) :: pn)) (.builtin "isinstance") (rIsX X.K D a d) := by
  intro pins s σ H xs us Q I r h
  obtain ⟨c, cv, b, rfl, hcv, e, hd, q⟩ := h
  cases r with
  | cons rx rr =>
    cases rr with
    | cons rt rr =>
      cases rr
      cases rx
      have ec := hcv _ rt
      subst ec
      obtain ⟨hget, _⟩ := I.pin (a, oe) (List.mem_append.mpr (.inl List.mem_cons_self))
      obtain ⟨vs, hv⟩ := hf
      have J : ∃ od, PySem.W.InstAt s.heap a oe D od := by
        obtain ⟨oc, od, oda, osl⟩ := oe
        obtain ⟨h1, h2⟩ := hz
        dsimp only at h1 h2 hv
        subst h1 h2 hv
        rcases hd with rfl | ⟨dd, fv, rfl, hH⟩
        · exact ⟨none, hget, rfl, rfl, trivial⟩
        · have hx : ObjOk X.prog X.w H s.heap dd (.xd fv) := I.hok dd _ hH
          obtain ⟨mA, hns, hr⟩ := hx
          obtain ⟨od, ho, hl⟩ := lookIn_ns hns
          exact ⟨some od, hget, rfl, rfl, ho⟩
      obtain ⟨od, J⟩ := J
      exact PySem.W.kia_one (PySem.W.kitx_exc (by obtain ⟨cd, hc, _⟩ := PySem.W.any_some C.hd; rw [hc]; rfl) C.hg C.hk C.hs C.ha C.hn C.ht C.hm) I.kIn J e (fun z => nomatch z) fun tk => ⟨.bl b, H, I.kept (t' := tk) fun _ _ z => z, rfl, q⟩
/-- what the written part says of the exceptions' classes -/
structure XOk (K : PySem.W.Frag) (mg : Str → Option Value) (cls : Str → Option (List Str)) (xi : XI) : Prop where
  sub : ∀ k c b, xi.sub k c = some b → ∃ Ck Cc : Addr, mg k = some (.ref Ck) ∧ mg c = some (.ref Cc) ∧ PySem.W.exmOne K (.ref Ck) (.ref Cc) = some b ∧ PySem.W.kitOne K (.ref Ck) (.ref Cc) = some b ∧ ExcC K Ck
  flds : ∀ k ns, xi.flds k = some ns → cls k = some ns ∧ ∃ Ck : Addr, mg k = some (.ref Ck) ∧ XfC K Ck ∧ ∀ f ∈ ns, PySem.W.findIn K (.ref Ck) f = some none
/-- in the except suite -/
abbrev Ctx.han (C : Ctx) (a : Addr) (oe : Obj) (pn : List (Addr × Obj)) (xh : XH) : Ctx := { C with X := C.X.suite a ((a, oe) :: pn), W := fun _ _ _ _ => False, xh := some xh }
/-- the caught exception's class, dict -/
structure XhOk (C : Ctx) (a : Addr) (cls : Value) (d : Option Addr) (xh : XH) : Prop where
  ea : xh.a = a
  ed : xh.dd = d
  em : C.X.mg xh.c = some cls
  en : C.cls xh.c = some xh.ns
  eo : xh.ns = [] → d = none
theorem lookup_at : ∀ {ns : List Str} {fs : List D} {f : Str} {x : D}, (ns.zip fs).lookup f = some x → ∃ i : Nat, ns[i]? = some f ∧ fs[i]? = some x
  | [], _, _, _, h => by cases h
  | _ :: _, [], _, _, h => by cases h
  | n :: ns, y :: fs, f, x, h => by
    rw [List.zip_cons_cons, List.lookup_cons] at h
    by_cases e : (f == n) = true
    · rw [e] at h
      cases h
      have e : f = n := by simpa using e
      exact ⟨0, by simp [e], rfl⟩
    · have e : (f == n) = false := by simpa using e
      rw [e] at h
      obtain ⟨i, h1, h2⟩ := lookup_at h
      exact ⟨i + 1, by simpa using h1, by simpa using h2⟩
theorem pe_no {X : Cx} {e : Expr} {t : TE} (h : ∀ σ H Q, ¬ t σ H Q) : PE X e t := ⟨fun _ _ σ H Q _ q => (h σ H Q q).elim⟩
section
variable {C : Ctx} {a : Addr} {oe : Obj} {pn : List (Addr × Obj)} {cls : Value} {d : Option Addr} {xh : XH} {i : Nat} {x f c : Str} {p p1 p2 pos : Pos}
theorem ok_fld (XO : XOk C.K C.X.mg C.cls C.Φ.xi) (hx : XhOk C a cls d xh) (hz : Zc cls d oe) (hf : ∃ vs, oe.data = .fields vs) (hN : C.X.N[i]? = some x) (hv : Vis C.X.env.scope x) (hd : (x == ("__debug__" : Str)) = false) (hc : (x == ("__classdict__" : Str)) = false) :
    OkE (C.han a oe pn xh) (.Attribute (.Name x p1) f p2) (evE C.Φ (.fld i f)) := by
  have key : ∀ σ H Q, tD (C.han a oe pn xh) (evE C.Φ (.fld i f)) σ H Q → ∃ ns y s μ, C.Φ.xi.flds xh.c = some ns ∧ (ns.zip xh.fs).lookup f = some y ∧ s.H = H ∧ Wd C.K C.w s μ ∧ σ[i]? = some (some (.ref a)) ∧ XFld C.K C.w s xh ∧ ∀ v s' o, Post C.K C.w s s' μ y v o → Q v s'.H := by
    rintro σ H Q ⟨s, ρ, own, μ, e1, p, q⟩
    have q : ResG (C.han a oe pn xh) σ ((match ρ[i]? with
    | some (some (.exn c fs)) => match C.Φ.xi.flds c with
      | some ns => ofO ((ns.zip fs).lookup f)
      | none => M.bad
    | _ => M.bad : M D) μ) _ := q
    cases h : ρ[i]? with
    | none => simp only [h] at q; exact q.elim
    | some od =>
      cases od with
      | none => simp only [h] at q; exact q.elim
      | some e =>
        cases e with
        | exn k fs =>
          simp only [h] at q
          obtain ⟨v, hσ, h', e2, ev, _, ek, ef, xf⟩ := p.r.at_ i _ h
          cases e2
          subst ek ef ev
          rw [hx.ea] at hσ
          cases hl : C.Φ.xi.flds xh.c with
          | none => rw [hl] at q; exact q.elim
          | some ns =>
            rw [hl] at q
            obtain ⟨y, ey, q⟩ := ResG.ofO q
            exact ⟨ns, y, s, μ, rfl, ey, e1, p.wd, hσ, xf, q⟩
        | _ => simp only [h] at q; exact q.elim
  by_cases hg : ∃ ns y, C.Φ.xi.flds xh.c = some ns ∧ (ns.zip xh.fs).lookup f = some y
  · obtain ⟨ns, y, h1, h2⟩ := hg
    obtain ⟨hcl, Ck, hm, T, hno⟩ := XO.flds _ _ h1
    obtain ⟨j, h3, h4⟩ := lookup_at h2
    have hm : C.X.mg xh.c = some (.ref Ck) := hm
    have ec : cls = .ref Ck := Option.some.inj (hx.em.symm.trans hm)
    subst ec
    have en : ns = xh.ns := Option.some.inj (hcl.symm.trans hx.en)
    refine PE_imp (pe_xf T (hno f (List.mem_of_getElem? h3)) hz hf (pe_var (X := C.X.suite a ((a, oe) :: pn)) hN hv hd hc)) fun σ H Q q => ?_
    obtain ⟨ns', y', s, μ, h1', h2', e1, wd, hσ, xf, q⟩ := key σ H Q q
    rw [h1] at h1'
    cases h1'
    rw [h2] at h2'
    cases h2'
    rcases xf with xf | ⟨dd, fv, vs, ed, hH, r, l⟩
    · rw [en, xf] at h3; simp at h3
    · obtain ⟨v, hv', rv⟩ := r.at_ h4
      refine ⟨.ref a, hσ, rfl, rfl, dd, fv, v, hx.ed.symm.trans ed, by rw [← e1]; exact hH, l j f v (by rw [← en]; exact h3) hv', ?_⟩
      rw [← e1]
      exact q v s [] (Post.scal (Ev.refl s) wd rv)
  · refine pe_no fun σ H Q q => hg ?_
    obtain ⟨ns', y', s, μ, h1', h2', _⟩ := key σ H Q q
    exact ⟨ns', y', h1', h2'⟩
theorem ok_isE (XO : XOk C.K C.X.mg C.cls C.Φ.xi) (hx : XhOk C a cls d xh) (hz : Zc cls d oe) (hf : ∃ vs, oe.data = .fields vs) (hN : C.X.N[i]? = some x) (hv : Vis C.X.env.scope x) (hd : (x == ("__debug__" : Str)) = false) (hc : (x == ("__classdict__" : Str)) = false)
    (hg : Gl C.X "isinstance") (hm : C.X.mg "isinstance" = none) (hgc : Gl C.X c) (hdc : (c == ("__debug__" : Str)) = false) : OkE (C.han a oe pn xh) (.Call (.Name "isinstance" p) [.Name x p1, .Name c p2] [] pos) (evE C.Φ (.isE i c)) := by
  have key : ∀ σ H Q, tD (C.han a oe pn xh) (evE C.Φ (.isE i c)) σ H Q → ∃ b s μ, C.Φ.xi.sub xh.c c = some b ∧ s.H = H ∧ Wd C.K C.w s μ ∧ σ[i]? = some (some (.ref a)) ∧ XFld C.K C.w s xh ∧ ∀ v s' o, Post C.K C.w s s' μ (.bl b) v o → Q v s'.H := by
    rintro σ H Q ⟨s, ρ, own, μ, e1, p, q⟩
    have q : ResG (C.han a oe pn xh) σ ((match ρ[i]? with
    | some (some (.exn k _)) => ofO ((C.Φ.xi.sub k c).map .bl)
    | _ => M.bad : M D) μ) _ := q
    cases h : ρ[i]? with
    | none => simp only [h] at q; exact q.elim
    | some od =>
      cases od with
      | none => simp only [h] at q; exact q.elim
      | some e =>
        cases e with
        | exn k fs =>
          simp only [h] at q
          obtain ⟨v, hσ, h', e2, ev, _, ek, ef, xf⟩ := p.r.at_ i _ h
          cases e2
          subst ek ef ev
          rw [hx.ea] at hσ
          obtain ⟨y, ey, q⟩ := ResG.ofO q
          obtain ⟨b, eb, rfl⟩ := Option.map_eq_some_iff.mp ey
          exact ⟨b, s, μ, eb, e1, p.wd, hσ, xf, q⟩
        | _ => simp only [h] at q; exact q.elim
  cases hs : C.Φ.xi.sub xh.c c with
  | none =>
    refine pe_no fun σ H Q q => ?_
    obtain ⟨b, _, _, h, _⟩ := key σ H Q q
    rw [hs] at h
    cases h
  | some b =>
    obtain ⟨Ck, Cc, m1, m2, _, ko, EC⟩ := XO.sub _ _ _ hs
    have m1 : C.X.mg xh.c = some (.ref Ck) := m1
    have ec : cls = .ref Ck := Option.some.inj (hx.em.symm.trans m1)
    subst ec
    refine PE_imp (pe_callB (X := C.X.suite a ((a, oe) :: pn)) (call_isX EC hz hf) hg hm PyProof.Rows.boot_isinstance (pa_cons (pe_var (X := C.X.suite a ((a, oe) :: pn)) hN hv hd hc) (pa_cons (pe_glob (X := C.X.suite a ((a, oe) :: pn)) (v := .ref Cc) hgc m2 rfl hdc) pa_nil rfl) rfl) (by decide) (by decide) rfl rfl) fun σ H Q q => ?_
    obtain ⟨b', s, μ, h1, e1, wd, hσ, xf, q⟩ := key σ H Q q
    rw [hs] at h1
    cases h1
    refine ⟨.ref a, hσ, .ref Cc, .ref Cc, b, rfl, fun u h => h, ko, ?_, ?_⟩
    · rcases xf with xf | ⟨dd, fv, vs, ed, hH, _, _⟩
      · exact .inl (hx.eo xf)
      · exact .inr ⟨dd, fv, hx.ed.symm.trans ed, by rw [← e1]; exact hH⟩
    · rw [← e1]
      exact q (.bl b) s [] (Post.scal (Ev.refl s) wd ⟨rfl, rfl⟩)
end
end Vf

/-! VY -/
set_option autoImplicit false
set_option linter.all false
set_option Elab.async false
set_option maxHeartbeats 4000000
set_option maxRecDepth 10000
/-! VY: try. -/
namespace Vf
open PySem PySem.Spec PyProof.Rows L2

section
variable {C : Ctx} {X' : Cx} {s s' : Sx} {ρ : Env} {σ : L2.St} {own : Nat → List Addr} {μ : Sto} {f : Env → M Fl} {D : Ends} {H : Hp}
theorem Pre.reX (hK : X'.K = C.X.K) (hw : X'.w = C.X.w) (p : Pre C s ρ σ own μ) : Pre { C with X := X' } s ρ σ own μ := by
  obtain ⟨r, wd, ev, fr⟩ := p
  refine ⟨?_, ?_, ev, fr⟩
  · show RepS X'.K X'.w C.xh s ρ σ own
    rw [hK, hw]; exact r
  · show Wd X'.K X'.w s μ
    rw [hK, hw]; exact wd
theorem Pre.unX (hK : X'.K = C.X.K) (hw : X'.w = C.X.w) (p : Pre { C with X := X' } s ρ σ own μ) : Pre C s ρ σ own μ := Pre.reX (C := { C with X := X' }) (X' := C.X) hK.symm hw.symm p
theorem tS_reX (hK : X'.K = C.X.K) (hw : X'.w = C.X.w) (hm : X'.mg = C.X.mg) (h : tS C f D σ H) : tS { C with X := X' } f D σ H := by
  obtain ⟨s, ρ, own, μ, e, p, q⟩ := h
  refine ⟨s, ρ, own, μ, e, p.reX hK hw, ?_⟩
  cases ef : f ρ μ with
  | bad => rw [ef] at q; exact q
  | exc c fs μ1 =>
    rw [ef] at q
    intro s' Cl dd ev wd xr
    have wd : Wd X'.K X'.w s' μ1 := wd
    have xr : XRep X'.K X'.w X'.mg C.cls s' c fs Cl dd := xr
    rw [hK, hw] at wd
    rw [hK, hw, hm] at xr
    exact q s' Cl dd ev wd xr
  | ok fl μ1 =>
    rw [ef] at q
    cases fl with
    | nx ρ' => exact fun σ' own' s' p' g => q σ' own' s' (p'.unX hK hw) g
    | brk ρ' => exact fun σ' own' s' p' g => q σ' own' s' (p'.unX hK hw) g
    | cont ρ' => exact fun σ' own' s' p' g => q σ' own' s' (p'.unX hK hw) g
    | rt d => exact fun v s' o po => q v s' o (by
        have po : Post X'.K X'.w C.s0 s' μ1 d v o := po
        rw [hK, hw] at po; exact po)
end
theorem allNb_at : ∀ {ρ : Env} {i : Nat} {d : D}, allNb ρ = true → ρ[i]? = some (some d) → d.nb = true
  | [], _, _, _, h => by simp at h
  | some e :: ρ, 0, d, h, e1 => by
    have h : (e.nb && allNb ρ) = true := h
    have e1 : e = d := by simpa using e1
    subst e1
    exact (Bool.and_eq_true_iff.mp h).1
  | some e :: ρ, i + 1, d, h, e1 => by
    have h : (e.nb && allNb ρ) = true := h
    exact allNb_at (Bool.and_eq_true_iff.mp h).2 (by simpa using e1)
  | none :: ρ, 0, d, h, e1 => by simp at e1
  | none :: ρ, i + 1, d, h, e1 => by
    have h : allNb ρ = true := h
    exact allNb_at h (by simpa using e1)
theorem noEx_at : ∀ {ρ : Env} {i : Nat} {d : D}, noEx ρ = true → ρ[i]? = some (some d) → ∀ c fs, d ≠ .exn c fs
  | [], _, _, _, h => by simp at h
  | none :: ρ, 0, d, h, e1 => by simp at e1
  | none :: ρ, i + 1, d, h, e1 => by
    have h : noEx ρ = true := h
    exact noEx_at h (by simpa using e1)
  | some e :: ρ, j, d, h, e1 => by
    have h2 : noEx ρ = true ∧ (∀ c fs, e ≠ .exn c fs) := by
      cases e with
      | exn c fs => cases h
      | _ => exact ⟨h, fun _ _ z => by cases z⟩
    cases j with
    | zero =>
      have e1 : e = d := by simpa using e1
      subst e1
      exact h2.2
    | succ j => exact noEx_at h2.1 (by simpa using e1)
theorem set_none {α : Type} {ρ : List (Option α)} {i j : Nat} {x : α} (h : (ρ.set i none)[j]? = some (some x)) : j ≠ i ∧ ρ[j]? = some (some x) := by
  by_cases e : j = i
  · subst e
    by_cases hl : j < ρ.length
    · rw [List.getElem?_set_self hl] at h; cases h
    · rw [List.getElem?_eq_none (by rw [List.length_set]; omega)] at h; cases h
  · rw [List.getElem?_set_ne (Ne.symm e)] at h
    exact ⟨e, h⟩
theorem xfld_of {K : PySem.W.Frag} {w : World} {s : Sx} {fv : List (Str × V)} : ∀ {ns : List Str} {fs : List D}, ns.length = fs.length → (∀ (i : Nat) (f : Str) (x : D), ns[i]? = some f → fs[i]? = some x → ∃ v, fv.lookup f = some v ∧ Rep K w s x v []) →
    ∃ vs, RepL K w s fs vs [] ∧ ∀ (i : Nat) (f : Str) (v : V), ns[i]? = some f → vs[i]? = some v → fv.lookup f = some v
  | [], [], _, _ => ⟨[], ⟨rfl, rfl⟩, fun i f v h => by simp at h⟩
  | [], _ :: _, h, _ => by cases h
  | _ :: _, [], h, _ => by cases h
  | n :: ns, x :: fs, h, k => by
    obtain ⟨vs, r, l⟩ := xfld_of (ns := ns) (fs := fs) (by simpa using h) fun i f y h1 h2 => k (i + 1) f y (by simpa using h1) (by simpa using h2)
    obtain ⟨v, hv, rv⟩ := k 0 n x rfl rfl
    refine ⟨v :: vs, RepL.cons rv r, fun i f u h1 h2 => ?_⟩
    cases i with
    | zero =>
      have h1 : n = f := by simpa using h1
      have h2 : v = u := by simpa using h2
      subst h1 h2
      exact hv
    | succ i => exact l i f u (by simpa using h1) (by simpa using h2)
section
variable {C : Ctx} {s1 b₀ : Stmt} {suite : List Stmt} {i : Nat} {c n : Str} {np pos pos' : Pos} {fb fh : Env → M Fl}
theorem ok_try (XO : XOk C.K C.X.mg C.cls C.Φ.xi) (hs : C.X.stack = C.X.env :: C.X.outer) (hf : C.X.env.frame = some C.X.env.locals) (nd : C.X.N.Nodup) (hi : C.X.N[i]? = some n) (hln : C.X.env.kindOf n = some .local)
    (hgc : Gl C.X c) (hdc : (c == ("__debug__" : Str)) = false) {Cc : Addr} (hcm : C.X.mg c = some (.ref Cc)) (tk : Takes C.X C.W) (hxn : C.xh = none)
    (hb : ∀ (W : WX) (pn : List (Addr × Obj)) (xe : Value → Shared → Prop) (s0 : Sx), Takes (C.X.tr pn xe) W → OkS { C with X := C.X.tr pn xe, W := W, s0 := s0 } s1 fb)
    (hh : ∀ (a : Addr) (oe : Obj) (cls : Value) (d : Option Addr) (pn : List (Addr × Obj)) (xh : XH), Zc cls d oe → (∃ vs, oe.data = .fields vs) → XhOk C a cls d xh → OkSs (C.han a oe pn xh) (b₀ :: suite) fh) :
    OkS C (.Try [s1] [.ExceptHandler (some (.Name c np)) (some n) (b₀ :: suite) pos'] [] [] pos) (tryK C.Φ c i fb fh) := by
  refine PS_imp (ps_try_as (X := C.X) (Wout := C.W) (tb := fun W D σ H => ∃ s0, tS { C with W := W, s0 := s0 } fb D σ H) (ts := fun a cls d D σ H => ∃ xh, XhOk C a cls d xh ∧ tS { C with W := fun _ _ _ _ => False, xh := some xh } fh D σ H) hs hf nd hi hln ⟨hgc, hdc, .inl hcm⟩ tk
    (fun W pn xe tkW po => pss_one ⟨fun pins s σ H D I ⟨s0, h⟩ => (hb W pn xe s0 tkW).run pins s σ H D I (tS_reX (C := { C with W := W, s0 := s0 }) (X' := C.X.tr pn xe) rfl rfl rfl h)⟩)
    (fun a oe cls d pn hz hv => ⟨fun pins s σ H D I ⟨xh, hx, h⟩ => (hh a oe cls d pn xh hz hv hx).run pins s σ H D I (tS_reX (C := { C with W := fun _ _ _ _ => False, xh := some xh }) (X' := C.X.suite a ((a, oe) :: pn)) rfl rfl rfl h)⟩)) ?_
  rintro D σ H ⟨s, ρ, own, μ, e1, p, q⟩
  obtain ⟨g, q⟩ := q.guard
  obtain ⟨g1, g2⟩ := Bool.and_eq_true_iff.mp g
  have hl : i < ρ.length := of_decide_eq_true g2
  have at0 : ∀ (j : Nat) (d : Vf.D), ρ[j]? = some (some d) → ∃ v, σ[j]? = some (some v) ∧ Rep C.K C.w s d v [] := fun j d h => by
    obtain ⟨v, hv, r⟩ := p.r.at_ j d h
    have n := allNb_at g1 h
    have r := r.nbR n
    have eo := Rep.nb _ _ _ r n
    rw [eo] at r
    exact ⟨v, hv, r⟩
  refine ⟨s, s, ρ, fun _ => [], μ, e1, ⟨⟨fun j d h => ?_, (fun _ _ z => nomatch z), fun _ => List.nodup_nil, (fun _ _ _ _ z => nomatch z), p.r.len⟩, p.wd, Ev.refl s, fun _ _ z => nomatch z⟩, ?_⟩
  · obtain ⟨v, hv, r⟩ := at0 j d h
    exact ⟨v, hv, RepX.of r⟩
  have q : ResG C σ (match fb ρ μ with
    | .ok fl μ' => .ok fl μ'
    | .bad => .bad
    | .exc k fs μ' => match C.Φ.xi.sub k c with
      | some true => nox (M.bind (fh (ρ.set i (some (.exn k fs)))) (outX i)) μ'
      | some false => .exc k fs μ'
      | none => .bad) (FlP C D s) := q
  have back : ∀ {s' : Sx} {ρ' : Env} {σ' : L2.St} {own' : Nat → List Addr} {μ' : Sto} {W : WX}, Pre { C with W := W, s0 := s } s' ρ' σ' own' μ' → Pre C s' ρ' σ' own' μ' := fun P => ⟨P.r, P.wd, p.ev.trans P.ev, fun i a ha z => P.fr i a ha (p.ev.up a z)⟩
  cases hr : fb ρ μ with
  | bad => rw [hr] at q; exact q.elim
  | ok fl μ1 =>
    rw [hr] at q
    cases fl with
    | nx ρ' => exact fun σ' own' s' P g => q σ' own' s' (back P) g
    | brk ρ' => exact fun σ' own' s' P g => q σ' own' s' (back P) g
    | cont ρ' => exact fun σ' own' s' P g => q σ' own' s' (back P) g
    | rt d => exact fun v s' o po => q v s' o (Post.tr p.ev po)
  | exc k fs μ1 =>
    rw [hr] at q
    intro s' Cl dd ev wd xr
    obtain ⟨Ca, ns, eCl, hm, hcl, hnl, hn0, hn1⟩ := xr
    cases hsub : C.Φ.xi.sub k c with
    | none => simp only [hsub] at q; exact q.elim
    | some b =>
      obtain ⟨Ck, Cc', m1, m2, ex, _, _⟩ := XO.sub _ _ _ hsub
      have eK : Ca = Ck := Value.ref.inj (Option.some.inj (hm.symm.trans m1))
      have eC : Cc = Cc' := Value.ref.inj (Option.some.inj (hcm.symm.trans m2))
      subst eK eC eCl
      cases b with
      | false =>
        simp only [hsub] at q
        exact ⟨false, ex, (fun z => nomatch z), fun _ => q s' _ dd (p.ev.trans ev) wd ⟨Ca, ns, rfl, hm, hcl, hnl, hn0, hn1⟩⟩
      | true =>
        simp only [hsub] at q
        refine ⟨true, ex, fun _ a ha => ⟨⟨a, k, fs, ns, dd⟩, ⟨rfl, rfl, hm, hcl, hn0⟩, s', ρ.set i (some (.exn k fs)), fun _ => [], μ1, rfl, ⟨⟨fun j d h => ?_, (fun _ _ z => nomatch z), fun _ => List.nodup_nil, (fun _ _ _ _ z => nomatch z), by rw [List.length_set, List.length_set]; exact p.r.len⟩, wd, p.ev.trans ev, fun _ _ z => nomatch z⟩, ?_⟩, fun z => nomatch z⟩
        · rcases set_get h with ⟨rfl, rfl, _⟩ | ⟨hne, h⟩
          · refine ⟨.ref a, List.getElem?_set_self (by rw [← p.r.len]; exact hl), ⟨a, k, fs, ns, dd⟩, rfl, rfl, rfl, rfl, rfl, ?_⟩
            by_cases e0 : ns = []
            · exact .inl e0
            · obtain ⟨d, fv, ed, hH, hx⟩ := hn1 e0
              obtain ⟨vs, r, l⟩ := xfld_of hnl hx
              exact .inr ⟨d, fv, vs, ed, hH, r, l⟩
          · obtain ⟨v, hv, r⟩ := at0 j d h
            exact ⟨v, by rw [List.getElem?_set_ne (Ne.symm hne)]; exact hv, RepX.of (ev.rep0 p.wd r)⟩
        · have hfh : ∀ {fl : Fl} {μ2 : Sto}, fh (ρ.set i (some (.exn k fs))) μ1 = .ok fl μ2 → nox (M.bind (fh (ρ.set i (some (.exn k fs)))) (outX i)) μ1 = nox (outX i fl) μ2 := fun h => by
            unfold nox M.bind
            simp only [h]
          have out : ∀ {s2 : Sx} {ρ2 : Env} {σ2 : L2.St} {own2 : Nat → List Addr} {μ2 : Sto}, noEx (ρ2.set i none) = true → Pre { C with W := fun _ _ _ _ => False, xh := some ⟨a, k, fs, ns, dd⟩ } s2 ρ2 σ2 own2 μ2 → Pre C s2 (ρ2.set i none) (σ2.set i none) own2 μ2 := fun {s2 ρ2 σ2 own2 μ2} hn P => by
            refine ⟨⟨fun j d h => ?_, P.r.ow, P.r.nd, P.r.ap, by rw [List.length_set, List.length_set]; exact P.r.len⟩, P.wd, P.ev, P.fr⟩
            have hx := noEx_at hn h
            obtain ⟨hne, h⟩ := set_none h
            obtain ⟨v, hv, r⟩ := P.r.at_ j d h
            exact ⟨v, by rw [List.getElem?_set_ne (Ne.symm hne)]; exact hv, RepX.of (r.rep hx)⟩
          have gg : Go s s' := ev.go p.wd
          cases hr2 : fh (ρ.set i (some (.exn k fs))) μ1 with
          | bad =>
            have z : nox (M.bind (fh (ρ.set i (some (.exn k fs)))) (outX i)) μ1 = .bad := by
              unfold nox M.bind
              simp only [hr2]
            rw [z] at q; exact q.elim
          | exc c2 fs2 μ2 =>
            have z : nox (M.bind (fh (ρ.set i (some (.exn k fs)))) (outX i)) μ1 = .bad := by
              unfold nox M.bind
              simp only [hr2]
            rw [z] at q; exact q.elim
          | ok fl μ2 =>
            rw [hfh hr2] at q
            cases fl with
            | rt d => exact q
            | nx ρ2 =>
              have q : ResG C σ (nox (guard' (noEx (ρ2.set i none)) (M.ret (.nx (ρ2.set i none)))) μ2) (FlP C D s) := q
              cases hn : noEx (ρ2.set i none) with
              | false => rw [hn] at q; exact q.elim
              | true => rw [hn] at q; exact fun σ' own' s2 P g => q (σ'.set i none) own' s2 (out hn P) (gg.trans g)
            | brk ρ2 =>
              have q : ResG C σ (nox (guard' (noEx (ρ2.set i none)) (M.ret (.brk (ρ2.set i none)))) μ2) (FlP C D s) := q
              cases hn : noEx (ρ2.set i none) with
              | false => rw [hn] at q; exact q.elim
              | true => rw [hn] at q; exact fun σ' own' s2 P g => q (σ'.set i none) own' s2 (out hn P) (gg.trans g)
            | cont ρ2 =>
              have q : ResG C σ (nox (guard' (noEx (ρ2.set i none)) (M.ret (.cont (ρ2.set i none)))) μ2) (FlP C D s) := q
              cases hn : noEx (ρ2.set i none) with
              | false => rw [hn] at q; exact q.elim
              | true => rw [hn] at q; exact fun σ' own' s2 P g => q (σ'.set i none) own' s2 (out hn P) (gg.trans g)
end
end Vf

/-! VT -/
set_option autoImplicit false
set_option linter.all false
set_option Elab.async false
set_option maxHeartbeats 4000000
set_option maxRecDepth 10000
/-! VT: try with several clauses 'except x as n'. -/
namespace Vf
open PySem PySem.Spec PyProof.Rows L2
/-- what a clause's suite says: of the object, its class, its dict -/
abbrev TCl := Addr → Value → Option Addr → TS
/-- the wishes of the clauses, one behind the other -/
def wAsL (K : PySem.W.Frag) (Wo : WX) (De : Ends) : List (Value × Nat × TCl) → WX
  | [] => Wo
  | (c, i, tc) :: r => wAs K c i tc (wAsL K Wo De r) De
inductive AsOk (Y : Cx) : List ExceptHandler → List (Value × Nat × TCl) → Prop
  | nil : AsOk Y [] []
  | cons {x n : Str} {c : Value} {i : Nat} {tc : TCl} {b : Stmt} {bs : List Stmt} {np hp : Pos} {hs : List ExceptHandler} {cl : List (Value × Nat × TCl)} (hi : Y.N[i]? = some n) (hn : Y.env.kindOf n = some .local) (hc : Names Y x c)
      (hk : ∀ a o cls d pn, Zc cls d o → (∃ fs, o.data = .fields fs) → PSs (Y.suite a ((a, o) :: pn)) (b :: bs) (tc a cls d)) (r : AsOk Y hs cl) :
      AsOk Y (.ExceptHandler (some (.Name x np)) (some n) (b :: bs) hp :: hs) ((c, i, tc) :: cl)
section
variable {Y : Cx} {ss : List Stmt} {h1 : ExceptHandler} {hs : List ExceptHandler} {cl : List (Value × Nat × TCl)} {pos : Pos} {tb : WX → TS} {Wo : WX}
/-- an object that was raised is none of the frames -/
theorem no_frame {B h : Heap} {es : List PySem.Env} {a : Addr} {o : Obj} {fs : Array Value} (g : h.FunFrames B es) (e1 : h.get? a = some o) (e2 : o.data = .fields fs) : a ∉ frs es := fun z => by
  have ⟨_, o2, e3, no⟩ := g.mem z
  have e4 : o = o2 := Option.some.inj (e1.symm.trans e3)
  subst e4
  exact no _ e2
/-- on the ground: the clauses are gone through -/
theorem as_go {B : Heap} {a : Addr} {sI z : Shared} {pp : List (Addr × Obj)} {σ : L2.St} {H : Hp} {cls : Value} {d : Option Addr} {De : Ends} (hst : Y.stack = Y.env :: Y.outer) (hfr : Y.env.frame = some Y.env.locals) (nd : Y.N.Nodup) (tk : Takes Y Wo)
    (J : Inv Y pp σ H sI) (nb : ∀ b o, sI.heap.get? b = some o → b ∉ frs Y.stack → B.get? b = some o) (up0 : Heap.UpToSlots B z.heap → True) (na : H a = none)
    (land : ∀ h, HandSPX.FlyingZ B (Y.env :: Y.outer) a (Zc cls d) h → z.heap.UpToSlots h → Inv Y pp σ H { z with heap := h })
    (out : ∀ h, HandSPX.FlyingZ B (Y.env :: Y.outer) a (Zc cls d) h → z.heap.UpToSlots h → Wo cls d σ H → wpAny (model Y.prog Y.w) Y.A (setFlight (.ref a) Y.env.frame) (fun _ y => wpAny (model Y.prog Y.w) Y.A (throw (.ref a) : Sem Flow) (SP Y pp De) Y.xe y) Y.xe { z with heap := h })
    (fl : HandSPX.FlyingZ B (Y.env :: Y.outer) a (Zc cls d) z.heap) :
    ∀ {hs : List ExceptHandler} {cl : List (Value × Nat × TCl)}, AsOk Y hs cl → wAsL Y.K Wo De cl cls d σ H → wpAny (model Y.prog Y.w) Y.A (handleBy (.ref a) Y.env hs) (SP Y pp De) Y.xe z := by
  have ok := J.ok
  have here := land z.heap fl (Heap.UpToSlots.refl _)
  have ⟨o3, f3, g1, g2, g3⟩ := fl.there
  have nofr := no_frame fl.2.2.1 g1 g3
  have n1 : a ≠ Y.env.locals := fun e => nofr (List.mem_filterMap.mpr ⟨Y.env, List.mem_cons_self, by rw [hfr, e]⟩)
  have n2 : a ∉ Y.fs := fun e => by
    have ⟨v, w1, w2⟩ := List.mem_filterMap.mp e
    exact nofr (List.mem_filterMap.mpr ⟨v, List.mem_cons_of_mem _ w1, w2⟩)
  have S := here.suite g1 g3 na n1 n2
  intro hs cl g
  induction g with
  | nil =>
    intro w
    refine wpAny_handleBy_nil ?_
    have ⟨_, _, _, o, fs, T, _, _, e1, _, e3, e4, _⟩ := id fl
    unfold PySem.passOn
    refine wpAny_bind (wpAny_field e1 e3 e4 ?_)
    rw [if_neg (by simp : ¬ ((Value.ref T == Value.none) = true))]
    have last := out z.heap fl (Heap.UpToSlots.refl _) w
    first
      | exact wpAny_bind (wpAny_pure (wpAny_bind last))
      | exact wpAny_bind last
  | @cons x n c i tc b bs np hp hs2 cl2 hi hn hc hk r ih =>
    intro w
    obtain ⟨t, e1, yes, no⟩ := w
    refine wpAny_handleBy_cons (codeAny_handlers_test ?_) (fun e => by cases e)
    have look : PySem.W.Looks (model Y.prog Y.w) z.heap (typeOf (.ref a)) cls := fun _ _ _ _ kk qq => wpAny_typeOf_ref (kk _ _ g1) (by rw [g2.1]; exact qq)
    have asked := PySem.W.exm_one (M := model Y.prog Y.w) here.kIn look e1
    have name : ∀ {P E : Value → Shared → Prop}, P c z → wpAny (model Y.prog Y.w) (Y.A.mark (some (.ref a))) (eval (.Name x np) Y.env) P E z := fun {P E} p => by
      have ⟨hg, hdb, hm⟩ := hc
      rcases hm with hm | ⟨hm, hv, hnn⟩
      · exact ld_glob (X := Y.suite a ((a, o3) :: (Y.pn ++ pp))) S hg hm p hdb
      · exact ld_blt (X := Y.suite a ((a, o3) :: (Y.pn ++ pp))) S hg hm hv p hnn hdb
    refine name (asked.here ?_)
    cases t with
    | false => exact ih (no rfl)
    | true =>
      refine codeAny_handlers_suite_as (HandSPX.lands_againZ fl fun h fl2 u2 => ?_)
      have here2 := land h fl2 u2
      have ⟨o4, f4, k1, k2, k3⟩ := fl2.there
      refine store_ok (X := Y.suite a ((a, o4) :: (Y.pn ++ pp))) (v := .ref a) (here2.suite k1 k3 na n1 n2) nd hi (.inl hn) rfl (fun z5 S5 => ?_) (.inr hn)
      have run := (hk a o4 cls d (Y.pn ++ pp) k2 ⟨_, k3⟩).run [] z5 _ H _ S5 (yes rfl a na)
      refine wpAny_mono run (fun f z6 sp => ?_) fun _ _ bot => bot.elim
      have done : ∀ {τ : L2.St} {G : Hp} {P : Shared → Prop}, Inv (Y.suite a ((a, o4) :: (Y.pn ++ pp))) [] τ G z6 → (∀ z7, Inv Y pp (τ.set i none) G z7 → P z7) → wpAny (model Y.prog Y.w) Y.A (do bindName Y.env n .none; unbindBehindTheSuite Y.env n hp) (fun _ z7 => P z7) Y.xe z6 :=
        fun S6 k => gone_ok (S6.unsuite ok) nd hi hn k
      cases f with
      | next => have ⟨_, _, S6, k⟩ := sp; exact done S6 fun _ j => ⟨_, _, j, k⟩
      | brk => have ⟨_, _, S6, k⟩ := sp; exact done S6 fun _ j => ⟨_, _, j, k⟩
      | cont => have ⟨_, _, S6, k⟩ := sp; exact done S6 fun _ j => ⟨_, _, j, k⟩
      | ret u => have ⟨_, _, _, S6, rv, k⟩ := sp; exact done S6 fun _ j => ⟨_, _, _, j, rv, k⟩
theorem ps_try_asL (hst : Y.stack = Y.env :: Y.outer) (hfr : Y.env.frame = some Y.env.locals) (nd : Y.N.Nodup) (tk : Takes Y Wo)
    (hb : ∀ W pn xe, Takes (Y.tr pn xe) W → PassesOwn (model Y.prog Y.w) Y.A Y.env xe → PSs (Y.tr pn xe) ss (tb W)) (hk : AsOk Y (h1 :: hs) cl) :
    PS Y (.Try ss (h1 :: hs) [] [] pos) (fun De σ H => tb (wAsL Y.K Wo De cl) De σ H) := by
  refine ⟨fun pp z σ H De J0 t => ?_⟩
  have ok := J0.ok
  have fr : Y.A.frames = some (Y.env :: Y.outer) := hst ▸ ok.frames
  refine wpAny_Try_except (wpAny_mono ((hb (wAsL Y.K Wo De cl) (Y.pn ++ pp) _ (fun u y ex => ?_) PassesOwn.looking).run [] z σ H De (J0.toTry _) t) (fun f y sp => ?_) fun _ _ e => e)
  · obtain ⟨a, B, sI, _, σ2, H2, cls, d, eu, J2, nb, up, sky, na, os, ag, w⟩ := ex
    subst eu
    have J := J2.ofTry (X := Y) (pins := pp) ok
    rw [hst] at sky
    refine Sky.land Zc.steady fr hfr sky fun h fl u => ?_
    refine as_go (B := B) (sI := sI) (z := { y with heap := h }) hst hfr nd tk J nb (fun _ => trivial) na (fun h' fl' u' => J.landed nb fl'.1 ((up.trans u).trans u') os ag) (fun h' fl' u' wo => ?_) fl hk w
    rw [hfr]
    refine HandSPX.setFlight_upZ fl' fun h4 hh u4 => wpAny_throw (tk _ _ ⟨a, B, sI, pp, σ2, H2, cls, d, rfl, J, nb, ((up.trans u).trans u').trans u4, .inr (.inr ?_), na, os, ag, wo⟩)
    rw [hst]
    exact hh
  · cases f with
    | next => have ⟨_, _, j, k⟩ := sp; exact wpAny_execs_nil ⟨_, _, j.ofTry ok, k⟩
    | brk => have ⟨_, _, j, k⟩ := sp; exact ⟨_, _, j.ofTry ok, k⟩
    | cont => have ⟨_, _, j, k⟩ := sp; exact ⟨_, _, j.ofTry ok, k⟩
    | ret u => have ⟨_, _, _, j, rv, k⟩ := sp; exact ⟨_, _, _, j.ofTry ok, rv, k⟩
end
end Vf

/-! VU -/
set_option autoImplicit false
set_option linter.all false
set_option Elab.async false
set_option maxHeartbeats 4000000
set_option maxRecDepth 10000
/-! VU: return of one of two pairs; try with two clauses; a list of pairs of lists is ruined. -/
namespace Vf
open PySem PySem.Spec PyProof.Rows L2

section
variable {C : Ctx} {i : Nat} {x : Str} {f : Env → M D} {ie : Expr} {k1 k2 : Str} {n1 : Int} {j1 j2 j3 j4 j5 : Nat} {q0 q1 q2 q3 q4 q5 q6 q7 q8 : Pos}
def pkK (k1 : Str) (n1 : Int) (k2 : Str) (i : Nat) (f : Env → M D) : Env → M Fl := fun ρ => match ρ[i]? with
  | some (some d) => guard' (!d.isX) (M.bind (f ρ) fun y => match y with
      | .int 0 => M.ret (.rt (.tup [.str k1, .int n1]))
      | .int 1 => M.ret (.rt (.tup [.str k2, d]))
      | _ => M.bad)
  | _ => M.bad
theorem pk_cases {σ : L2.St} {y a b : D} {μ : Sto} {F : Fl → Sto → Prop} (h : ResG C σ ((match y with
      | .int 0 => M.ret (.rt a)
      | .int 1 => M.ret (.rt b)
      | _ => M.bad : M Fl) μ) F) : (y = .int 0 ∧ F (.rt a) μ) ∨ (y = .int 1 ∧ F (.rt b) μ) := by
  match y, h with
  | .int 0, h => exact .inl ⟨rfl, h⟩
  | .int 1, h => exact .inr ⟨rfl, h⟩
  | .int (.ofNat (n + 2)), h => exact h.elim
  | .int (.negSucc n), h => exact h.elim
  | .non, h => exact h.elim
  | .bl _, h => exact h.elim
  | .str _, h => exact h.elim
  | .tup _, h => exact h.elim
  | .lst _ _, h => exact h.elim
  | .dct _ _ _, h => exact h.elim
  | .ref _, h => exact h.elim
  | .exn _ _, h => exact h.elim
theorem ok_retPk (hN : C.X.N[i]? = some x) (hv : Vis C.X.env.scope x) (hd : (x == ("__debug__" : Str)) = false) (hc : (x == ("__classdict__" : Str)) = false) (h : OkE C ie f) (hs : notSlice ie = true) :
    OkS C (.Return (some (.Subscript (.List [.Tuple [.Constant (.str k1) j1 q1, .Constant (.int n1) j2 q2] j4 q3, .Tuple [.Constant (.str k2) j3 q4, .Name x q5] j5 q6] q7) ie q8)) q0) (pkK k1 n1 k2 i f) :=
  PS_imp (ps_ret (pe_ix ix_list (pe_lst (pa_cons (pe_tup (pa_cons pe_str (pa_cons pe_int pa_nil))) (pa_cons (pe_tup (pa_cons pe_str (pa_cons (pe_var hN hv hd hc) pa_nil))) pa_nil))) h (notSlice_ok hs))) fun De σ H ⟨s, ρ, own, μ, e1, p, q⟩ => by
    subst e1
    have q : ResG C σ ((match ρ[i]? with
      | some (some d) => guard' (!d.isX) (M.bind (f ρ) fun y => match y with
          | .int 0 => M.ret (.rt (.tup [.str k1, .int n1]))
          | .int 1 => M.ret (.rt (.tup [.str k2, d]))
          | _ => M.bad)
      | _ => M.bad : M Fl) μ) (FlP C De s) := q
    cases hρ : ρ[i]? with
    | none => simp only [hρ] at q; exact q.elim
    | some od =>
      cases od with
      | none => simp only [hρ] at q; exact q.elim
      | some d =>
        simp only [hρ] at q
        obtain ⟨nx, q⟩ := q.guard
        obtain ⟨v, hv, r⟩ := p.r.at_ i d hρ
        have r := r.rep fun c fs e => by rw [e] at nx; cases nx
        have two : ([V.str k1, V.int n1] : List V).length ≤ sizeLine := by show 2 ≤ sizeLine; decide
        refine ⟨two, fun b1 f1 => ⟨v, hv, two, fun b2 f2 => ⟨two, fun b3 f3 => ?_⟩⟩⟩
        have g1 := Ev.tup (s := s) f1 (u := .tup [.str k1, .int n1])
        have w1 := p.wd.tup f1 (u := .tup [.str k1, .int n1])
        have g2 := Ev.tup (s := s.tup b1 (.tup [.str k1, .int n1])) f2 (u := .tup [.str k2, v])
        have w2 := w1.tup f2 (u := .tup [.str k2, v])
        have g3 := Ev.tup (s := (s.tup b1 (.tup [.str k1, .int n1])).tup b2 (.tup [.str k2, v])) f3 (u := .lst [.ref b1, .ref b2])
        have w3 := w2.tup f3 (u := .lst [.ref b1, .ref b2])
        have gg := (g1.trans g2).trans g3
        have new : ∀ b, s.H b = none → b ∉ s.ι := fun b e z => mut_ne (p.wd.mt b (p.wd.sub b z)) e
        have ne12 : b2 ≠ b1 := fun e => by
          have z : upd s.H b1 (.tup [.str k1, .int n1]) b2 = none := f2
          rw [e, upd_same] at z; cases z
        have z2 : s.H b2 = none := g1.live b2 f2
        have z3 : s.H b3 = none := (g1.trans g2).live b3 f3
        refine ⟨_, ρ, own, μ, rfl, p.step gg w3, q.bind.mono fun y μ1 h1 vy s4 oy po => ?_⟩
        have a3 := po.ev.ext b3 _ (show upd _ b3 _ b3 = _ from upd_same) (new b3 z3)
        have a2 := po.ev.ext b2 _ (g3.ext b2 _ (show upd _ b2 _ b2 = _ from upd_same) (new b2 z2)) (new b2 z2)
        have a1 := po.ev.ext b1 _ ((g2.trans g3).ext b1 _ (show upd _ b1 _ b1 = _ from upd_same) (new b1 f1)) (new b1 f1)
        have tot := gg.trans po.ev
        rcases pk_cases h1 with ⟨ey, k⟩ | ⟨ey, k⟩
        · subst ey
          refine ⟨b3, [.ref b1, .ref b2], 0, .ref b1, rfl, po.rep.1, .of a3, rfl, k _ s4 [] ⟨p.ev.trans tot, po.wd, ⟨b1, _, rfl, .of a1, .str k1, [.int n1], [], [], rfl, rfl, ⟨rfl, rfl⟩, .int n1, [], [], [], rfl, rfl, ⟨rfl, rfl⟩, rfl, rfl⟩, List.nodup_nil, fun _ z => nomatch z⟩⟩
        · subst ey
          have r4 := tot.rep p.wd r (p.r.ow i)
          have o4 := tot.ownS p.wd (p.r.ow i)
          refine ⟨b3, [.ref b1, .ref b2], 1, .ref b2, rfl, po.rep.1, .of a3, rfl, k _ s4 (own i) ⟨p.ev.trans tot, po.wd, ⟨b2, _, rfl, .of a2, .str k2, [v], [], own i, rfl, rfl, ⟨rfl, rfl⟩, v, [], own i, [], rfl, (List.append_nil _).symm, r4, rfl, rfl⟩, p.r.nd i, fun a ha => ⟨(o4 a ha).1, p.fr i a ha, (o4 a ha).2⟩⟩⟩
end

/-! ### two clauses -/
section
variable {C : Ctx} {s s' : Sx} {ρ : Env} {σ : L2.St} {own : Nat → List Addr} {μ μ1 : Sto} {De : Ends}
/-- the suite of a clause -/
abbrev tcOf (C : Ctx) (fh : Env → M Fl) : TCl := fun a cls d E τ G => ∃ xh, XhOk C a cls d xh ∧ tS { C with W := fun _ _ _ _ => False, xh := some xh } fh E τ G
theorem caught_ok (XO : XOk C.K C.X.mg C.cls C.Φ.xi) {i : Nat} {c k : Str} {fs : List D} {fh : Env → M Fl} {rest : M Fl} {Cc : Addr} {Cl : Value} {dd : Option Addr} {Wr : WX} (hcm : C.X.mg c = some (.ref Cc)) (p : Pre C s ρ σ own μ) (hl : i < ρ.length)
    (at0 : ∀ (j : Nat) (d : Vf.D), ρ[j]? = some (some d) → ∃ v, σ[j]? = some (some v) ∧ Rep C.K C.w s d v []) (ev : Ev s s') (wd : Wd C.K C.w s' μ1) (xr : XRep C.K C.w C.X.mg C.cls s' k fs Cl dd)
    (q : ResG C σ (caughtK C.Φ c i fh k fs ρ rest μ1) (FlP C De s)) (hr : ResG C σ (rest μ1) (FlP C De s) → Wr Cl dd σ s'.H) : wAs C.K (.ref Cc) i (tcOf C fh) Wr De Cl dd σ s'.H := by
  obtain ⟨Ca, ns, eCl, hm, hcl, hnl, hn0, hn1⟩ := xr
  have q : ResG C σ ((match C.Φ.xi.sub k c with
    | some true => nox (M.bind (fh (ρ.set i (some (.exn k fs)))) (outX i))
    | some false => rest
    | none => M.bad : M Fl) μ1) (FlP C De s) := q
  cases hsub : C.Φ.xi.sub k c with
  | none => simp only [hsub] at q; exact q.elim
  | some b =>
    obtain ⟨Ck, Cc', m1, m2, ex, _, _⟩ := XO.sub _ _ _ hsub
    have eK : Ca = Ck := Value.ref.inj (Option.some.inj (hm.symm.trans m1))
    have eC : Cc = Cc' := Value.ref.inj (Option.some.inj (hcm.symm.trans m2))
    subst eK eC eCl
    cases b with
    | false =>
      simp only [hsub] at q
      exact ⟨false, ex, (fun z => nomatch z), fun _ => hr q⟩
    | true =>
      simp only [hsub] at q
      refine ⟨true, ex, fun _ a ha => ⟨⟨a, k, fs, ns, dd⟩, ⟨rfl, rfl, hm, hcl, hn0⟩, s', ρ.set i (some (.exn k fs)), fun _ => [], μ1, rfl, ⟨⟨fun j d h => ?_, (fun _ _ z => nomatch z), fun _ => List.nodup_nil, (fun _ _ _ _ z => nomatch z), by rw [List.length_set, List.length_set]; exact p.r.len⟩, wd, p.ev.trans ev, fun _ _ z => nomatch z⟩, ?_⟩, fun z => nomatch z⟩
      · rcases set_get h with ⟨rfl, rfl, _⟩ | ⟨hne, h⟩
        · refine ⟨.ref a, List.getElem?_set_self (by rw [← p.r.len]; exact hl), ⟨a, k, fs, ns, dd⟩, rfl, rfl, rfl, rfl, rfl, ?_⟩
          by_cases e0 : ns = []
          · exact .inl e0
          · obtain ⟨d, fv, ed, hH, hx⟩ := hn1 e0
            obtain ⟨vs, r, l⟩ := xfld_of hnl hx
            exact .inr ⟨d, fv, vs, ed, hH, r, l⟩
        · obtain ⟨v, hv, r⟩ := at0 j d h
          exact ⟨v, by rw [List.getElem?_set_ne (Ne.symm hne)]; exact hv, RepX.of (ev.rep0 p.wd r)⟩
      · have hfh : ∀ {fl : Fl} {μ2 : Sto}, fh (ρ.set i (some (.exn k fs))) μ1 = .ok fl μ2 → nox (M.bind (fh (ρ.set i (some (.exn k fs)))) (outX i)) μ1 = nox (outX i fl) μ2 := fun h => by
          unfold nox M.bind
          simp only [h]
        have out : ∀ {s2 : Sx} {ρ2 : Env} {σ2 : L2.St} {own2 : Nat → List Addr} {μ2 : Sto}, noEx (ρ2.set i none) = true → Pre { C with W := fun _ _ _ _ => False, xh := some ⟨a, k, fs, ns, dd⟩ } s2 ρ2 σ2 own2 μ2 → Pre C s2 (ρ2.set i none) (σ2.set i none) own2 μ2 := fun {s2 ρ2 σ2 own2 μ2} hn P => by
          refine ⟨⟨fun j d h => ?_, P.r.ow, P.r.nd, P.r.ap, by rw [List.length_set, List.length_set]; exact P.r.len⟩, P.wd, P.ev, P.fr⟩
          have hx := noEx_at hn h
          obtain ⟨hne, h⟩ := set_none h
          obtain ⟨v, hv, r⟩ := P.r.at_ j d h
          exact ⟨v, by rw [List.getElem?_set_ne (Ne.symm hne)]; exact hv, RepX.of (r.rep hx)⟩
        have gg : Go s s' := ev.go p.wd
        cases hr2 : fh (ρ.set i (some (.exn k fs))) μ1 with
        | bad =>
          have z : nox (M.bind (fh (ρ.set i (some (.exn k fs)))) (outX i)) μ1 = .bad := by
            unfold nox M.bind
            simp only [hr2]
          rw [z] at q; exact q.elim
        | exc c2 fs2 μ2 =>
          have z : nox (M.bind (fh (ρ.set i (some (.exn k fs)))) (outX i)) μ1 = .bad := by
            unfold nox M.bind
            simp only [hr2]
          rw [z] at q; exact q.elim
        | ok fl μ2 =>
          rw [hfh hr2] at q
          have key : ∀ ρ2 : Env, ∀ F : Env → Fl, ResG C σ (nox (guard' (noEx (ρ2.set i none)) (M.ret (F (ρ2.set i none)))) μ2) (FlP C De s) → noEx (ρ2.set i none) = true ∧ FlP C De s (F (ρ2.set i none)) μ2 := fun ρ2 F q => by
            cases hn : noEx (ρ2.set i none) with
            | false => rw [hn] at q; exact q.elim
            | true => rw [hn] at q; exact ⟨rfl, q⟩
          cases fl with
          | rt d => exact q
          | nx ρ2 =>
            obtain ⟨hn, q⟩ := key ρ2 .nx q
            exact fun σ' own' s2 P g => q (σ'.set i none) own' s2 (out hn P) (gg.trans g)
          | brk ρ2 =>
            obtain ⟨hn, q⟩ := key ρ2 .brk q
            exact fun σ' own' s2 P g => q (σ'.set i none) own' s2 (out hn P) (gg.trans g)
          | cont ρ2 =>
            obtain ⟨hn, q⟩ := key ρ2 .cont q
            exact fun σ' own' s2 P g => q (σ'.set i none) own' s2 (out hn P) (gg.trans g)
/-- what a clause needs -/
structure ClOk (C : Ctx) (c : Str) (i : Nat) (n : Str) (Cc : Addr) (hs : List Stmt) (fh : Env → M Fl) : Prop where
  hi : C.X.N[i]? = some n
  hln : C.X.env.kindOf n = some .local
  hgc : Gl C.X c
  hdc : (c == ("__debug__" : Str)) = false
  hcm : C.X.mg c = some (.ref Cc)
  hh : ∀ (a : Addr) (oe : Obj) (cls : Value) (d : Option Addr) (pn : List (Addr × Obj)) (xh : XH), Zc cls d oe → (∃ vs, oe.data = .fields vs) → XhOk C a cls d xh → OkSs (C.han a oe pn xh) hs fh
theorem ClOk.suite {c : Str} {i : Nat} {n : Str} {Cc : Addr} {hs : List Stmt} {fh : Env → M Fl} (h : ClOk C c i n Cc hs fh) : ∀ a o cls d pn, Zc cls d o → (∃ fs, o.data = .fields fs) → PSs (C.X.suite a ((a, o) :: pn)) hs (tcOf C fh a cls d) := fun a oe cls d pn hz hv =>
  ⟨fun pins z σ H E I ⟨xh, hx, g⟩ => (h.hh a oe cls d pn xh hz hv hx).run pins z σ H E I (tS_reX (C := { C with W := fun _ _ _ _ => False, xh := some xh }) (X' := C.X.suite a ((a, oe) :: pn)) rfl rfl rfl g)⟩
theorem ok_try2 (XO : XOk C.K C.X.mg C.cls C.Φ.xi) (hst : C.X.stack = C.X.env :: C.X.outer) (hf : C.X.env.frame = some C.X.env.locals) (nd : C.X.N.Nodup) (tk : Takes C.X C.W) {s1 b1 b2 : Stmt} {bs1 bs2 : List Stmt} {i1 i2 : Nat} {c1 c2 n1 n2 : Str} {np1 np2 hp1 hp2 pos : Pos} {fb f1 f2 : Env → M Fl} {Ca Cb : Addr}
    (hb : ∀ (W : WX) (pn : List (Addr × Obj)) (xe : Value → Shared → Prop) (s0 : Sx), Takes (C.X.tr pn xe) W → OkS { C with X := C.X.tr pn xe, W := W, s0 := s0 } s1 fb)
    (h1 : ClOk C c1 i1 n1 Ca (b1 :: bs1) f1) (h2 : ClOk C c2 i2 n2 Cb (b2 :: bs2) f2) :
    OkS C (.Try [s1] [.ExceptHandler (some (.Name c1 np1)) (some n1) (b1 :: bs1) hp1, .ExceptHandler (some (.Name c2 np2)) (some n2) (b2 :: bs2) hp2] [] [] pos) (tryK2 C.Φ c1 i1 c2 i2 fb f1 f2) := by
  refine PS_imp (ps_try_asL (Y := C.X) (Wo := C.W) (cl := [(.ref Ca, i1, tcOf C f1), (.ref Cb, i2, tcOf C f2)]) (tb := fun W E σ H => ∃ s0, tS { C with W := W, s0 := s0 } fb E σ H) hst hf nd tk
    (fun W pn xe tkW _ => pss_one ⟨fun pins z σ H E I ⟨s0, g⟩ => (hb W pn xe s0 tkW).run pins z σ H E I (tS_reX (C := { C with W := W, s0 := s0 }) (X' := C.X.tr pn xe) rfl rfl rfl g)⟩)
    (.cons h1.hi h1.hln ⟨h1.hgc, h1.hdc, .inl h1.hcm⟩ h1.suite (.cons h2.hi h2.hln ⟨h2.hgc, h2.hdc, .inl h2.hcm⟩ h2.suite .nil))) ?_
  rintro E σ H ⟨s, ρ, own, μ, e1, p, q⟩
  obtain ⟨g, q⟩ := q.guard
  simp only [Bool.and_eq_true, decide_eq_true_eq] at g
  obtain ⟨⟨g1, l1⟩, l2⟩ := g
  have at0 : ∀ (j : Nat) (d : Vf.D), ρ[j]? = some (some d) → ∃ v, σ[j]? = some (some v) ∧ Rep C.K C.w s d v [] := fun j d h => by
    obtain ⟨v, hv, r⟩ := p.r.at_ j d h
    have n := allNb_at g1 h
    have r := r.nbR n
    have eo := Rep.nb _ _ _ r n
    rw [eo] at r
    exact ⟨v, hv, r⟩
  refine ⟨s, s, ρ, fun _ => [], μ, e1, ⟨⟨fun j d h => ?_, (fun _ _ z => nomatch z), fun _ => List.nodup_nil, (fun _ _ _ _ z => nomatch z), p.r.len⟩, p.wd, Ev.refl s, fun _ _ z => nomatch z⟩, ?_⟩
  · obtain ⟨v, hv, r⟩ := at0 j d h
    exact ⟨v, hv, RepX.of r⟩
  have q : ResG C σ (match fb ρ μ with
    | .ok fl μ' => .ok fl μ'
    | .bad => .bad
    | .exc k fs μ' => caughtK C.Φ c1 i1 f1 k fs ρ (caughtK C.Φ c2 i2 f2 k fs ρ (M.exc k fs)) μ') (FlP C E s) := q
  have back : ∀ {s' : Sx} {ρ' : Env} {σ' : L2.St} {own' : Nat → List Addr} {μ' : Sto} {W : WX}, Pre { C with W := W, s0 := s } s' ρ' σ' own' μ' → Pre C s' ρ' σ' own' μ' := fun P => ⟨P.r, P.wd, p.ev.trans P.ev, fun i a ha z => P.fr i a ha (p.ev.up a z)⟩
  cases hr : fb ρ μ with
  | bad => rw [hr] at q; exact q.elim
  | ok fl μ1 =>
    rw [hr] at q
    cases fl with
    | nx ρ' => exact fun σ' own' s' P g => q σ' own' s' (back P) g
    | brk ρ' => exact fun σ' own' s' P g => q σ' own' s' (back P) g
    | cont ρ' => exact fun σ' own' s' P g => q σ' own' s' (back P) g
    | rt d => exact fun v s' o po => q v s' o (Post.tr p.ev po)
  | exc k fs μ1 =>
    rw [hr] at q
    intro s' Cl dd ev wd xr
    exact caught_ok XO h1.hcm p l1 at0 ev wd xr q fun q2 => caught_ok XO h2.hcm p l2 at0 ev wd xr q2 fun q3 => (show XRes C σ k fs μ1 from q3) s' Cl dd (p.ev.trans ev) wd xr
end
end Vf

/-! VR -/
set_option autoImplicit false
set_option linter.all false
set_option Elab.async false
set_option maxHeartbeats 4000000
set_option maxRecDepth 10000
/-! VR: a list of pairs of lists is ruined: for m, a in x[c]: m.append(..); a.append(..) / x[c].append(None). -/
namespace Vf
open PySem PySem.Spec PyProof.Rows L2
/-! ### expressions that only make new things -/
def tNew : TE := fun _ H Q => ∀ v H', Be [] H H' → Q v H'
theorem Be.new {H : Hp} {a : Addr} {u : HO} (h : H a = none) : Be [] H (upd H a u) :=
  ⟨fun b x e _ => by rw [upd_ne (ne_of_none e h)]; exact e, fun b e => by
    by_cases z : b = a
    · rw [z, upd_same] at e; cases e
    · rw [upd_ne z] at e; exact e⟩
section
variable {X : Cx} {pos : Pos}
def isI : Expr → Bool
  | .Constant (.int _) _ _ => true
  | _ => false
def isP : Expr → Bool
  | .Tuple [a, b] _ _ => isI a && isI b
  | _ => false
def isNew : Expr → Bool
  | .Tuple [a, b] _ _ => isI a && isI b
  | .List [] _ => true
  | .List [a] _ => isP a
  | _ => false
theorem pe_isI {e : Expr} (h : isI e = true) : ∃ i : Int, PE X e (tC (.int i)) ∧ notStar e = true := by
  unfold isI at h
  split at h
  · exact ⟨_, pe_int, rfl⟩
  · cases h
theorem pe_isP {e : Expr} (h : isP e = true) : PE X e tNew ∧ notStar e = true := by
  unfold isP at h
  split at h
  · obtain ⟨h1, h2⟩ := Bool.and_eq_true_iff.mp h
    obtain ⟨i, g1, n1⟩ := pe_isI (X := X) h1
    obtain ⟨j, g2, n2⟩ := pe_isI (X := X) h2
    refine ⟨PE_imp (pe_tup (pa_cons g1 (pa_cons g2 pa_nil (notStar_ok n2 [] _)) (notStar_ok n1 [_] _))) fun σ H Q q => ?_, rfl⟩
    exact ⟨by show 2 ≤ sizeLine; decide, fun p hp => q _ _ (Be.new hp)⟩
  · cases h
theorem pe_isNew {e : Expr} (h : isNew e = true) : PE X e tNew ∧ notStar e = true := by
  unfold isNew at h
  split at h
  · exact pe_isP (e := .Tuple [_, _] _ _) h
  · exact ⟨PE_imp (pe_lst pa_nil) fun σ H Q q => ⟨by show 0 ≤ sizeLine; decide, fun p hp => q _ _ (Be.new hp)⟩, rfl⟩
  · obtain ⟨g, n⟩ := pe_isP (X := X) h
    refine ⟨PE_imp (pe_lst (pa_cons g pa_nil (notStar_ok n [] _))) fun σ H Q q => ?_, rfl⟩
    exact fun v H' b => ⟨by show 1 ≤ sizeLine; decide, fun p hp => q _ _ (b.trans (Be.new hp))⟩
  · cases h
/-- name.append(e) -/
def tApN (i : Nat) : TS := fun De σ H => ∃ a, σ[i]? = some (some (.ref a)) ∧ ∀ H1, Be [] H H1 → ∃ vs, H a = some (.lst vs) ∧ vs.length < sizeLine ∧ ∀ y, De.nx σ (upd H1 a (.lst (vs ++ [y])))
theorem ps_apN {i : Nat} {x : Str} {e : Expr} {p1 ap cp : Pos} (hN : X.N[i]? = some x) (hv : Vis X.env.scope x) (hd : (x == ("__debug__" : Str)) = false) (hc : (x == ("__classdict__" : Str)) = false) (he : isNew e = true) (hl : (ap.endLine == cp.line) = true) :
    PS X (.Expr (.Call (.Attribute (.Name x p1) "append" ap) [e] [] cp) pos) (tApN i) :=
  PS_imp (ps_expr (pe_bm PySem.F.plainAttrs_list PySem.F.slot_list_append PySem.F.type_list_append mt_append (pe_var hN hv hd hc) (pa_cons (pe_isNew he).1 pa_nil (notStar_ok (pe_isNew (X := X) he).2 [] _)) rfl (few1 (pe_isNew (X := X) he).2 _ _) hl (notStar_ok (pe_isNew (X := X) he).2 [] _) rfl)) fun De σ H ⟨a, h0, q⟩ => by
    obtain ⟨vs, hH, hz, _⟩ := q H Be.refl
    refine ⟨.ref a, h0, .inl ⟨rfl, vs, .of hH⟩, fun v H' b => ?_⟩
    obtain ⟨vs', hH', hz', q'⟩ := q H' b
    exact ⟨a, vs', v, rfl, rfl, b.ext a _ hH' (fun z => nomatch z), hz', q' v⟩
/-- name[c] -/
abbrev tAt (K : PySem.W.Frag) (i : Nat) (c : Int) : TE := tOp (rIxT K) (tVar i) (tC (.int c))
end
theorem RepL.pick {K : PySem.W.Frag} {w : World} {s : Sx} : ∀ {ds : List D} {vs : List V} {o : List Addr} {j : Nat} {d : D}, RepL K w s ds vs o → ds[j]? = some d → ∃ v p, vs[j]? = some v ∧ Rep K w s d v p ∧ (∀ a ∈ p, a ∈ o) ∧ (o.Nodup → p.Nodup)
  | [], _, _, _, _, _, e => by simp at e
  | x :: ds, vs, o, 0, d, r, e => by
    obtain ⟨v, vs', o1, o2, ev, eo, r1, r2⟩ := r
    simp at e
    subst e ev eo
    exact ⟨v, o1, rfl, r1, fun a ha => List.mem_append_left _ ha, fun n => (List.nodup_append.mp n).1⟩
  | x :: ds, vs, o, j + 1, d, r, e => by
    obtain ⟨v, vs', o1, o2, ev, eo, r1, r2⟩ := r
    subst ev eo
    obtain ⟨u, p, h1, h2, h3, h4⟩ := RepL.pick (j := j) r2 (by simpa using e)
    exact ⟨u, p, by simpa using h1, h2, fun a ha => List.mem_append_right _ (h3 a ha), fun n => h4 (List.nodup_append.mp n).2.1⟩
theorem okPr_ok {d : D} (h : okPr d = true) : ∃ xs ys, d = .tup [.lst true xs, .lst true ys] ∧ xs.length < LINE ∧ ys.length < LINE := by
  unfold okPr at h
  split at h
  · simp only [Bool.and_eq_true, decide_eq_true_eq] at h
    exact ⟨_, _, rfl, h.1, h.2⟩
  · cases h
theorem ruinD_ok {c : Int} {d : D} (h : ruinD c d = true) : ∃ ds rs, d = .tup ds ∧ L2.atI ds c = some (.lst true rs) ∧ rs.length < LINE ∧ rs.all okPr = true := by
  unfold ruinD at h
  split at h
  · split at h
    · simp only [Bool.and_eq_true, decide_eq_true_eq] at h
      exact ⟨_, _, rfl, by assumption, h.1, h.2⟩
    · cases h
  · cases h
/-- the slots outside two of them are as they were -/
structure Sm (m a : Nat) (σ τ : L2.St) : Prop where
  len : τ.length = σ.length
  at_ : ∀ j, j ≠ m → j ≠ a → τ[j]? = σ[j]?
section
variable {X : Cx} {m a i : Nat} {s : Sx} {μ : Sto} {σ : L2.St} {De : Ends}
/-- one turn -/
theorem ruin_turn {d : D} {x : V} {p : List Addr} {H : Hp} {P : L2.St → Hp → Prop} {o1 : List Addr} {τ : L2.St} (W : Wd X.K X.w s μ) (hma : m ≠ a) (lm : m < τ.length) (la : a < τ.length) (b : Be o1 s.H H) (ow1 : ∀ z ∈ o1, s.O z) (r : Rep X.K X.w s d x p) (hd : okPr d = true) (nd : p.Nodup) (ap : ∀ z ∈ p, z ∉ o1)
    (k : ∀ H' v1 v2, Be (o1 ++ p) s.H H' → P ((τ.set m (some v1)).set a (some v2)) H') :
    gTup X.K 2 (gCons (gName m) (gCons (gName a) gNil)) x τ H fun τ2 H2 => tSeq (tApN m) (tSeq (tApN a) tNext) { De with nx := P, ct := P, bk := De.nx } τ2 H2 := by
  obtain ⟨xs, ys, rfl, lx, ly⟩ := okPr_ok hd
  obtain ⟨T, vs, ex, hT, rr⟩ := r
  obtain ⟨v1, vs1, p1, q1, ev1, eo1, r1, rr⟩ := rr
  obtain ⟨v2, vs2, p2, q2, ev2, eo2, r2, rr⟩ := rr
  obtain ⟨ev3, eo3⟩ := rr
  subst ev1 ev2 ev3 eo1 eo2 eo3
  obtain ⟨b1, w1, o1', e1, h1, eo1, s1⟩ := r1
  obtain ⟨b2, w2, o2', e2, h2, eo2, s2⟩ := r2
  subst e1 e2 eo1 eo2
  have m1 : b1 ∈ (b1 :: o1') ++ ((b2 :: o2') ++ []) := List.mem_append_left _ List.mem_cons_self
  have m2 : b2 ∈ (b1 :: o1') ++ ((b2 :: o2') ++ []) := List.mem_append_right _ (List.mem_append_left _ List.mem_cons_self)
  have n12 : b2 ≠ b1 := fun e => (List.nodup_append.mp nd).2.2 b1 List.mem_cons_self b2 (List.mem_append_left _ List.mem_cons_self) e.symm
  have g1 : H b1 = some (.lst w1) := b.ext b1 _ h1 (ap b1 m1)
  have g2 : H b2 = some (.lst w2) := b.ext b2 _ h2 (ap b2 m2)
  refine ⟨T, [.ref b1, .ref b2], ex, (b.kp W ow1).sqT hT, rfl, .ref b1, [.ref b2], rfl, .ref b2, [], rfl, rfl, ?_⟩
  show tSeq (tApN m) (tSeq (tApN a) tNext) _ ((τ.set m (some (.ref b1))).set a (some (.ref b2))) H
  refine ⟨b1, by rw [List.getElem?_set_ne (Ne.symm hma)]; exact List.getElem?_set_self lm, fun H1 B1 => ⟨w1, g1, by rw [← line_eq, ← s1.len]; exact lx, fun y => ?_⟩⟩
  refine ⟨b2, List.getElem?_set_self (by rw [List.length_set]; exact la), fun H2 B2 => ⟨w2, ?_, by rw [← line_eq, ← s2.len]; exact ly, fun y2 => ?_⟩⟩
  · rw [upd_ne n12]
    exact B1.ext b2 _ g2 fun z => nomatch z
  · refine k _ _ _ ((((b.trans B1).trans Be.put).trans (B2.trans Be.put)).mono fun z hz => ?_)
    simp only [List.append_nil, List.nil_append, List.append_assoc, List.mem_append, List.mem_singleton] at hz
    rcases hz with hz | hz | hz
    · exact List.mem_append_left _ hz
    · rw [hz]; exact List.mem_append_right _ m1
    · rw [hz]; exact List.mem_append_right _ m2
end

section
variable {X : Cx} {m a i : Nat} {s : Sx} {μ : Sto} {σ : L2.St} {De : Ends}
/-- the loop -/
theorem ruin_loop {A : Addr} {rs : List D} {us : List V} {o : List Addr} (W : Wd X.K X.w s μ) (hma : m ≠ a) (lm : m < σ.length) (la : a < σ.length) (hA : s.H A = some (.lst us)) (nA : A ∉ o) (r : RepL X.K X.w s rs us o) (hr : rs.all okPr = true) (nd : o.Nodup) (ow : ∀ z ∈ o, s.O z)
    (q : ∀ τ H', Sm m a σ τ → Be o s.H H' → De.nx τ H') :
    ∃ W : Nat → Nat → L2.St → Hp → Prop, (∃ m, W 0 m σ s.H) ∧ ∀ i n σ H, W i n σ H →
      ((Itl X.K A).stop i H ∧ De.nx σ H) ∨ ((Itl X.K A).go i H ∧ ∃ N : L2.St → Hp → Prop, (∀ σ' H', N σ' H' → ∃ n', n' < n ∧ W (i + 1) n' σ' H') ∧ ∀ x H', (Itl X.K A).yld i H x H' → gTup X.K 2 (gCons (gName m) (gCons (gName a) gNil)) x σ H' fun σ2 H2 => tSeq (tApN m) (tSeq (tApN a) tNext) { De with nx := N, ct := N, bk := De.nx } σ2 H2) := by
  refine for_it (walk_list (xs := us)) (fun i τ H => Sm m a σ τ ∧ ∃ o1 o2, o = o1 ++ o2 ∧ Be o1 s.H H ∧ RepL X.K X.w s (rs.drop i) (us.drop i) o2) ⟨⟨rfl, fun _ _ _ => rfl⟩, [], o, rfl, Be.refl, r⟩ (fun i τ H _ ⟨_, o1, o2, e, b, _⟩ => .inl (.of (b.ext A _ hA fun z => nA (by rw [e]; exact List.mem_append_left _ z)))) ?_ ?_
  · rintro i x τ H H' hi ⟨sm, o1, o2, e, b, ri⟩ ⟨eH, hx⟩
    subst eH
    have hi2 : i < rs.length := by rw [r.len]; exact hi
    rw [List.drop_eq_getElem_cons hi2] at ri
    obtain ⟨y, vs', p1, p2, ev, eo, r1, r2⟩ := ri
    rw [List.drop_eq_getElem_cons hi] at ev
    have ev1 := (List.cons.inj ev).1
    have ev2 := (List.cons.inj ev).2
    have hx : us[i]? = some x := hx
    rw [List.getElem?_eq_getElem hi, ev1] at hx
    have hx := Option.some.inj hx
    subst hx
    subst ev2
    have nd1 := nd
    rw [e, eo] at nd1
    have na := List.nodup_append.mp nd1
    have nb := List.nodup_append.mp na.2.1
    refine ruin_turn W hma (by rw [sm.len]; exact lm) (by rw [sm.len]; exact la) b (fun z hz => ow z (by rw [e]; exact List.mem_append_left _ hz)) r1 (List.all_eq_true.mp hr _ (List.getElem_mem hi2)) nb.1 (fun z hz w => na.2.2 z w z (List.mem_append_left _ hz) rfl) fun H2 v1 v2 b2 => ?_
    refine ⟨⟨by rw [List.length_set, List.length_set]; exact sm.len, fun j h1 h2 => ?_⟩, o1 ++ p1, p2, by rw [e, eo, List.append_assoc], b2, r2⟩
    rw [List.getElem?_set_ne (Ne.symm h2), List.getElem?_set_ne (Ne.symm h1)]
    exact sm.at_ j h1 h2
  · rintro τ H ⟨sm, o1, o2, e, b, _⟩
    exact q τ H sm (b.mono fun z hz => by rw [e]; exact List.mem_append_left _ hz)
end
/-- slots that are empty -/
theorem Pre.sm {C : Ctx} {s : Sx} {ρ : Env} {σ τ : L2.St} {own : Nat → List Addr} {μ : Sto} {m a : Nat} (p : Pre C s ρ σ own μ) (h : Sm m a σ τ) : Pre C s ((ρ.set m none).set a none) τ own μ := by
  refine ⟨⟨fun j d e => ?_, p.r.ow, p.r.nd, p.r.ap, by rw [List.length_set, List.length_set, h.len]; exact p.r.len⟩, p.wd, p.ev, p.fr⟩
  obtain ⟨h1, e⟩ := set_none e
  obtain ⟨h2, e⟩ := set_none e
  obtain ⟨v, g1, g2⟩ := p.r.at_ j d e
  exact ⟨v, by rw [h.at_ j h2 h1]; exact g1, g2⟩
def ruinK (i : Nat) (c : Int) (m a : Nat) : Env → M Fl := fun ρ => match ρ[i]? with
    | some (some d) => guard' (ruinD c d && decide (i ≠ m) && decide (i ≠ a) && decide (m ≠ a) && decide (m < ρ.length) && decide (a < ρ.length)) (M.ret (.nx (((ρ.set i none).set m none).set a none)))
    | _ => M.bad
section
variable {C : Ctx} {i m a : Nat} {x y z : Str} {c : Int} {e1 e2 : Expr} {sts : List Stmt} {gs : Env → M Fl} {k1 k2 k3 k4 : Nat} {p1 p2 p3 p4 p5 p6 p7 p8 p9 q1 q2 q3 q4 q5 q6 q7 q8 q9 r1 r2 r3 r4 r5 r6 : Pos}
/-- what is asked of a name that is read -/
structure See (C : Ctx) (i : Nat) (x : Str) : Prop where
  hN : C.X.N[i]? = some x
  hv : Vis C.X.env.scope x
  hd : (x == ("__debug__" : Str)) = false
  hc : (x == ("__classdict__" : Str)) = false
theorem ok_ruin (hW : WI C) (po : PassesOwn (model C.X.prog C.X.w) C.X.A C.X.env C.X.xe) (hcl : C.X.calm = true) (nd : C.X.N.Nodup) (hx : See C i x) (hy : See C m y) (hz : See C a z) (ly : Loc C.X.env.scope y) (lz : Loc C.X.env.scope z) (fy : C.X.fn y = true ∨ C.X.env.scope.names.lookup y = some .local) (fz : C.X.fn z = true ∨ C.X.env.scope.names.lookup z = some .local)
    (h1 : isNew e1 = true) (h2 : isNew e2 = true) (l1 : (p1.endLine == p2.line) = true) (l2 : (q1.endLine == q2.line) = true) (l3 : (r1.endLine == r2.line) = true) (hs : OkSs C sts gs) :
    OkSs C (.For (.Tuple [.Name y p3, .Name z p4] k1 p5) (.Subscript (.Name x p6) (.Constant (.int c) k2 p7) p8)
        [.Expr (.Call (.Attribute (.Name y p9) "append" p1) [e1] [] p2) q9, .Expr (.Call (.Attribute (.Name z q3) "append" q1) [e2] [] q2) q4] [] q5 ::
      .Expr (.Call (.Attribute (.Subscript (.Name x q6) (.Constant (.int c) k3 q7) q8) "append" r1) [.Constant .none k4 r3] [] r2) r4 :: sts) (seqK (ruinK i c m a) gs) := by
  have pat : ∀ {ps pc pp : Pos} {k : Nat}, PE C.X (.Subscript (.Name x ps) (.Constant (.int c) k pc) pp) (tAt C.X.K i c) := fun {ps pc pp k} => pe_ix ix_tup (pe_var hx.hN hx.hv hx.hd hx.hc) pe_int (notSlice_ok rfl)
  have tgt : PG C.X (.Tuple [.Name y p3, .Name z p4] k1 p5) (gTup C.X.K 2 (gCons (gName m) (gCons (gName a) gNil))) := pg_tup hcl (pgs_cons (pg_name nd hy.hN ly fy) (pgs_cons (pg_name nd hz.hN lz fz) pgs_nil))
  have loop := ps_for (pos := q5) po hcl (pi_seq (tg := .Tuple [.Name y p3, .Name z p4] k1 p5) (pat (ps := p6) (pc := p7) (pp := p8) (k := k2))) tgt (pss_cons (ps_apN (p1 := p9) (pos := q9) hy.hN hy.hv hy.hd hy.hc h1 l1) (pss_cons (ps_apN (p1 := q3) (pos := q4) hz.hN hz.hv hz.hd hz.hc h2 l2) pss_nil))
  have last := ps_expr (pos := r4) (pe_bm (o := .Subscript (.Name x q6) (.Constant (.int c) k3 q7) q8) PySem.F.plainAttrs_list PySem.F.slot_list_append PySem.F.type_list_append mt_append pat (pa_cons (pe_non (X := C.X) (j := k4) (pos := r3)) pa_nil rfl) rfl (few1 rfl _ _) l3 rfl rfl)
  refine PSs_imp (pss_cons loop (pss_cons last hs)) ?_
  rintro D σ H ⟨s, ρ, own, μ, eH, p, q⟩
  subst eH
  have q : ResG C σ ((match ρ[i]? with
    | some (some d) => guard' (ruinD c d && decide (i ≠ m) && decide (i ≠ a) && decide (m ≠ a) && decide (m < ρ.length) && decide (a < ρ.length)) (M.ret (Fl.nx (((ρ.set i none).set m none).set a none)))
    | _ => M.bad : M Fl) μ) (fun fl μ' => ResG C σ ((match fl with
    | .nx ρ' => gs ρ'
    | f => M.ret f : M Fl) μ') (FlP C D s)) := ResG.bind q
  cases hρ : ρ[i]? with
  | none => simp only [hρ] at q; exact q.elim
  | some od =>
    cases od with
    | none => simp only [hρ] at q; exact q.elim
    | some d =>
      simp only [hρ] at q
      obtain ⟨g, q⟩ := ResG.guard q
      have qq : ResG C σ (gs (((ρ.set i none).set m none).set a none) μ) (FlP C D s) := q.ret
      simp only [Bool.and_eq_true, decide_eq_true_eq] at g
      obtain ⟨⟨⟨⟨⟨g, nim⟩, nia⟩, nma⟩, lm⟩, la⟩ := g
      obtain ⟨ds, rs, rfl, hat, lr, al⟩ := ruinD_ok g
      obtain ⟨v, hv, r⟩ := p.r.at_ i _ hρ
      have r := r.rep fun c fs e => by cases e
      obtain ⟨T, vs, ev, hT, rr⟩ := r
      unfold L2.atI at hat
      cases hj : L2.ixN ds.length c with
      | none => rw [hj] at hat; cases hat
      | some j =>
        rw [hj] at hat
        obtain ⟨u, o, hu, ru, om, on⟩ := rr.pick hat
        obtain ⟨A, us, o', eu, hA, eo, r2⟩ := ru
        subst ev eu eo
        have nd2 := List.nodup_cons.mp (on (p.r.nd i))
        have hat2 : L2.atI vs c = some (.ref A) := by
          unfold L2.atI
          rw [← rr.len, hj]
          exact hu
        have lr2 : us.length < sizeLine := by rw [← line_eq, ← r2.len]; exact lr
        have oo : ∀ b ∈ o', b ∈ own i := fun b hb => om b (List.mem_cons_of_mem _ hb)
        have oA : A ∈ own i := om A List.mem_cons_self
        refine ⟨.ref T, hv, T, vs, c, .ref A, rfl, rfl, hT, hat2, A, rfl, .inl ⟨⟨us, .inl (.of hA)⟩, ?_⟩⟩
        refine ruin_loop p.wd nma (by rw [← p.r.len]; exact lm) (by rw [← p.r.len]; exact la) hA nd2.1 r2 al nd2.2 (fun b hb => (p.r.ow i b (oo b hb)).1) fun τ H1 sm b => ?_
        have hA1 := b.ext A _ hA nd2.1
        have hT1 := (b.kp p.wd fun z hz => (p.r.ow i z (oo z hz)).1).sqT hT
        refine ⟨.ref T, by rw [sm.at_ i nim nia]; exact hv, T, vs, c, .ref A, rfl, rfl, hT1, hat2, .inl ⟨rfl, us, .of hA1⟩, A, us, .non, rfl, rfl, hA1, lr2, ?_⟩
        have be : Be (own i) s.H (upd H1 A (.lst (us ++ [.non]))) := (b.trans Be.put).mono fun z hz => by
          rcases List.mem_append.mp hz with hz | hz
          · exact oo z hz
          · rw [List.mem_singleton.mp hz]; exact oA
        obtain ⟨p', g'⟩ := p.bent be
        have q2 : ResG C τ (gs (((ρ.set i none).set m none).set a none) μ) (FlP C D s) := ResG.sig hW qq
        exact ⟨_, _, _, μ, rfl, p'.sm sm, ResG.mono q2 fun fl μ2 h2 => FlP.tr h2 g'⟩
end
end Vf

/-! V14 -/
set_option autoImplicit false
set_option linter.all false
set_option Elab.async false
set_option maxHeartbeats 4000000
set_option maxRecDepth 10000
/-! V14: statements of the table. -/
namespace Vf
open PySem PySem.Spec PyProof.Rows L2

abbrev Cls := List (Str × List Str)
def isAug : Bop → Bool
  | .add => true
  | .sub => true
  | _ => false
def isLcE : E → Bool
  | .lc .. => true
  | .lc2 .. => true
  | _ => false
def tNm : T → Option Nat
  | .nm i => some i
  | _ => none
theorem tNm_ok {t : T} {i : Nat} (h : tNm t = some i) : t = .nm i := by
  cases t <;> cases h; rfl
def asSet : Stmt → Option (Expr × Expr)
  | .Assign [tg] e _ => some (tg, e)
  | _ => none
theorem asSet_ok {s : Stmt} {tg e : Expr} (h : asSet s = some (tg, e)) : ∃ pos, s = .Assign [tg] e pos := by
  unfold asSet at h; split at h <;> cases h; exact ⟨_, rfl⟩
def asApp : Stmt → Option (Str × Expr × Bool)
  | .Expr (.Call (.Attribute (.Name x _) m ap) [e] [] cp) _ => if m = ("append" : Str) then some (x, e, ap.endLine == cp.line) else none
  | _ => none
def asAppAt : Stmt → Option (Str × Expr × Expr × Bool)
  | .Expr (.Call (.Attribute (.Subscript (.Name x _) k _) m ap) [e] [] cp) _ => if m = ("append" : Str) then some (x, k, e, ap.endLine == cp.line) else none
  | _ => none
def asApp2 : Stmt → Option (Str × Int × Int × Expr × Bool)
  | .Expr (.Call (.Attribute (.Subscript (.Subscript (.Name x _) (.Constant (.int a) _ _) _) (.Constant (.int b) _ _) _) m ap) [e] [] cp) _ => if m = ("append" : Str) then some (x, a, b, e, ap.endLine == cp.line) else none
  | _ => none
def asPut : Stmt → Option (Str × Expr × Expr)
  | .Assign [.Subscript (.Name x _) k _] e _ => some (x, k, e)
  | _ => none
def asRput : Stmt → Option (Expr × Expr × Expr)
  | .Assign [.Subscript a k _] e _ => some (a, k, e)
  | _ => none
def asRaug : Stmt → Option (Expr × Expr × Operator × Expr)
  | .AugAssign (.Subscript a k _) op e _ => some (a, k, op, e)
  | _ => none
def asRaise : Stmt → Option (Str × List Expr)
  | .Raise (some (.Call (.Name x _) es [] _)) none _ => some (x, es)
  | _ => none
def asBend : Stmt → Option (Str × Str)
  | .Expr (.Call (.Name f _) [.Name x _] [] _) _ => some (f, x)
  | _ => none
def asRetN : Stmt → Option Str
  | .Return (some (.Name x _)) _ => some x
  | _ => none
def asTry : Stmt → Option (Stmt × Str × Str × Stmt × List Stmt)
  | .Try [s1] [.ExceptHandler (some (.Name x _)) (some n) (b :: bs) _] [] [] _ => some (s1, x, n, b, bs)
  | _ => none
theorem asTry_ok {s s1 b : Stmt} {x n : Str} {bs : List Stmt} (h : asTry s = some (s1, x, n, b, bs)) : ∃ p1 p2 pos, s = .Try [s1] [.ExceptHandler (some (.Name x p1)) (some n) (b :: bs) p2] [] [] pos := by
  unfold asTry at h; split at h <;> cases h; exact ⟨_, _, _, rfl⟩
/-- a statement that may stand in a try -/
def isOne0 : S → Bool
  | .set _ _ e => !isLcE e
  | .expr _ => true
  | .ret _ => true
  | _ => false
def isOneN : Nat → S → Bool
  | 0, s => isOne0 s
  | n + 1, .ife _ [a] [b] => isOneN n a && isOneN n b
  | _ + 1, s => isOne0 s
def isOne (s : S) : Bool := isOneN 4 s
def asTry2 : Stmt → Option (Stmt × (Str × Str × Stmt × List Stmt) × (Str × Str × Stmt × List Stmt))
  | .Try [s1] [.ExceptHandler (some (.Name x _)) (some n) (b :: bs) _, .ExceptHandler (some (.Name x2 _)) (some n2) (b2 :: bs2) _] [] [] _ => some (s1, (x, n, b, bs), (x2, n2, b2, bs2))
  | _ => none
theorem asTry2_ok {s s1 b b2 : Stmt} {x n x2 n2 : Str} {bs bs2 : List Stmt} (h : asTry2 s = some (s1, (x, n, b, bs), (x2, n2, b2, bs2))) : ∃ p1 p2 p3 p4 pos, s = .Try [s1] [.ExceptHandler (some (.Name x p1)) (some n) (b :: bs) p2, .ExceptHandler (some (.Name x2 p3)) (some n2) (b2 :: bs2) p4] [] [] pos := by
  unfold asTry2 at h; split at h <;> cases h; exact ⟨_, _, _, _, _, rfl⟩
def asPk : Stmt → Option (Str × Int × Str × Str × Expr)
  | .Return (some (.Subscript (.List [.Tuple [.Constant (.str k1) _ _, .Constant (.int n1) _ _] _ _, .Tuple [.Constant (.str k2) _ _, .Name x _] _ _] _) ie _)) _ => some (k1, n1, k2, x, ie)
  | _ => none
theorem asPk_ok {s : Stmt} {k1 k2 x : Str} {n1 : Int} {ie : Expr} (h : asPk s = some (k1, n1, k2, x, ie)) : ∃ j1 j2 j3 j4 j5 q0 q1 q2 q3 q4 q5 q6 q7 q8, s = .Return (some (.Subscript (.List [.Tuple [.Constant (.str k1) j1 q1, .Constant (.int n1) j2 q2] j4 q3, .Tuple [.Constant (.str k2) j3 q4, .Name x q5] j5 q6] q7) ie q8)) q0 := by
  unfold asPk at h; split at h <;> cases h; exact ⟨_, _, _, _, _, _, _, _, _, _, _, _, _, _, rfl⟩
def asAp1 : Stmt → Option (Str × Expr × Bool)
  | .Expr (.Call (.Attribute (.Name x _) m ap) [e] [] cp) _ => if m = ("append" : Str) then some (x, e, ap.endLine == cp.line) else none
  | _ => none
theorem asAp1_ok {s : Stmt} {x : Str} {e : Expr} {b : Bool} (h : asAp1 s = some (x, e, b)) : ∃ p1 ap cp pos, s = .Expr (.Call (.Attribute (.Name x p1) "append" ap) [e] [] cp) pos ∧ (ap.endLine == cp.line) = b := by
  unfold asAp1 at h; split at h
  · split at h
    · rename_i hm; subst hm; cases h; exact ⟨_, _, _, _, rfl, rfl⟩
    · cases h
  · cases h
def asLoop : Stmt → Option (Str × Str × Str × Int × Stmt × Stmt)
  | .For (.Tuple [.Name y _, .Name z _] _ _) (.Subscript (.Name x _) (.Constant (.int c) _ _) _) [s1, s2] [] _ => some (y, z, x, c, s1, s2)
  | _ => none
theorem asLoop_ok {s s1 s2 : Stmt} {y z x : Str} {c : Int} (h : asLoop s = some (y, z, x, c, s1, s2)) : ∃ p3 p4 k1 p5 p6 k2 p7 p8 q5, s = .For (.Tuple [.Name y p3, .Name z p4] k1 p5) (.Subscript (.Name x p6) (.Constant (.int c) k2 p7) p8) [s1, s2] [] q5 := by
  unfold asLoop at h; split at h <;> cases h; exact ⟨_, _, _, _, _, _, _, _, _, rfl⟩
def asLast : Stmt → Option (Str × Int × Bool)
  | .Expr (.Call (.Attribute (.Subscript (.Name x _) (.Constant (.int c) _ _) _) m ap) [.Constant .none _ _] [] cp) _ => if m = ("append" : Str) then some (x, c, ap.endLine == cp.line) else none
  | _ => none
theorem asLast_ok {s : Stmt} {x : Str} {c : Int} {b : Bool} (h : asLast s = some (x, c, b)) : ∃ q6 k3 q7 q8 r1 k4 r3 r2 r4, s = .Expr (.Call (.Attribute (.Subscript (.Name x q6) (.Constant (.int c) k3 q7) q8) "append" r1) [.Constant .none k4 r3] [] r2) r4 ∧ (r1.endLine == r2.line) = b := by
  unfold asLast at h; split at h
  · split at h
    · rename_i hm; subst hm; cases h; exact ⟨_, _, _, _, _, _, _, _, _, rfl, rfl⟩
    · cases h
  · cases h
/-- the two statements that ruin a list: its name, index, the targets, what is appended, the lines -/
def asRuin (s1 s2 : Stmt) : Option (Str × Int × Str × Str × Expr × Expr × Bool) :=
  match asLoop s1, asLast s2 with
  | some (y, z, x, c, t1, t2), some (x', c', b3) => match asAp1 t1, asAp1 t2 with
    | some (y', e1, b1), some (z', e2, b2) => some (x, c, y, z, e1, e2, decide (x' = x) && decide (c' = c) && decide (y' = y) && decide (z' = z) && b1 && b2 && b3)
    | _, _ => none
  | _, _ => none
/-- name = [..]: the name, its line is the list's -/
def asSetC : Stmt → Option (Str × Bool × Expr)
  | .Assign [.Name y py] (.ListComp e gs scope p) _ => some (y, py.line == p.line && !(scope.names.any fun (n, k) => n == y && (k == .local || k == .cell)), .ListComp e gs scope p)
  | _ => none
theorem asApp_ok {s : Stmt} {x : Str} {e : Expr} {b : Bool} (h : asApp s = some (x, e, b)) : ∃ p1 ap cp pos, s = .Expr (.Call (.Attribute (.Name x p1) "append" ap) [e] [] cp) pos ∧ (ap.endLine == cp.line) = b := by
  unfold asApp at h; split at h
  · split at h
    · rename_i hm; subst hm; cases h; exact ⟨_, _, _, _, rfl, rfl⟩
    · cases h
  · cases h
theorem asAppAt_ok {s : Stmt} {x : Str} {k e : Expr} {b : Bool} (h : asAppAt s = some (x, k, e, b)) : ∃ p1 p2 ap cp pos, s = .Expr (.Call (.Attribute (.Subscript (.Name x p1) k p2) "append" ap) [e] [] cp) pos ∧ (ap.endLine == cp.line) = b := by
  unfold asAppAt at h; split at h
  · split at h
    · rename_i hm; subst hm; cases h; exact ⟨_, _, _, _, _, rfl, rfl⟩
    · cases h
  · cases h
theorem asApp2_ok {s : Stmt} {x : Str} {k l : Int} {e : Expr} {b : Bool} (h : asApp2 s = some (x, k, l, e, b)) : ∃ p1 p2 p3 n1 n2 q1 q2 ap cp pos, s = .Expr (.Call (.Attribute (.Subscript (.Subscript (.Name x p1) (.Constant (.int k) n1 q1) p2) (.Constant (.int l) n2 q2) p3) "append" ap) [e] [] cp) pos ∧ (ap.endLine == cp.line) = b := by
  unfold asApp2 at h; split at h
  · split at h
    · rename_i hm; subst hm; cases h; exact ⟨_, _, _, _, _, _, _, _, _, _, rfl, rfl⟩
    · cases h
  · cases h
theorem asPut_ok {s : Stmt} {x : Str} {k e : Expr} (h : asPut s = some (x, k, e)) : ∃ p1 p2 pos, s = .Assign [.Subscript (.Name x p1) k p2] e pos := by
  unfold asPut at h; split at h <;> cases h; exact ⟨_, _, _, rfl⟩
theorem asRput_ok {s : Stmt} {a k e : Expr} (h : asRput s = some (a, k, e)) : ∃ p2 pos, s = .Assign [.Subscript a k p2] e pos := by
  unfold asRput at h; split at h <;> cases h; exact ⟨_, _, rfl⟩
theorem asRaug_ok {s : Stmt} {a k e : Expr} {op : Operator} (h : asRaug s = some (a, k, op, e)) : ∃ p2 pos, s = .AugAssign (.Subscript a k p2) op e pos := by
  unfold asRaug at h; split at h <;> cases h; exact ⟨_, _, rfl⟩
theorem asRaise_ok {s : Stmt} {x : Str} {es : List Expr} (h : asRaise s = some (x, es)) : ∃ p1 p2 pos, s = .Raise (some (.Call (.Name x p1) es [] p2)) none pos := by
  unfold asRaise at h; split at h <;> cases h; exact ⟨_, _, _, rfl⟩
theorem asBend_ok {s : Stmt} {f x : Str} (h : asBend s = some (f, x)) : ∃ p1 p2 p3 pos, s = .Expr (.Call (.Name f p1) [.Name x p2] [] p3) pos := by
  unfold asBend at h; split at h <;> cases h; exact ⟨_, _, _, _, rfl⟩
theorem asRetN_ok {s : Stmt} {x : Str} (h : asRetN s = some x) : ∃ p1 pos, s = .Return (some (.Name x p1)) pos := by
  unfold asRetN at h; split at h <;> cases h; exact ⟨_, _, rfl⟩
theorem asSetC_ok {s : Stmt} {y : Str} {b : Bool} {e' : Expr} (h : asSetC s = some (y, b, e')) : ∃ py e gs scope p pos, s = .Assign [.Name y py] (.ListComp e gs scope p) pos ∧ e' = .ListComp e gs scope p ∧ b = (py.line == p.line && !(scope.names.any fun (n, k) => n == y && (k == .local || k == .cell))) := by
  unfold asSetC at h; split at h <;> cases h; exact ⟨_, _, _, _, _, _, rfl, rfl, rfl⟩
section
variable (G : Sig) (L : Cls) (B : Bool)
mutual
def chkS : S → Inf → Stmt → Bool
  | .set fr tg e, t, s => match asSetC s with
    | some (y, b, e') => match tNm tg with
      | some i => (b && t.at_ i y && decide (t.sc.names.lookup y = some .local) || t.sto i y && decide (t.sc.names.lookup y = some .cell)) && !isBrw e && isLcE e && chkE G e t e'
      | none => false
    | none => match asSet s with
      | some (tg', e') => !isBrw e && notComp e' && noSwap tg' e' && notStar tg' && chkT tg t tg' && chkE G e t e'
      | none => false
  | .aug i op e, t, .AugAssign (.Name x _) op' e' _ => isAug op && opB op' op && !isBrw e && t.sto i x && chkE G e t e'
  | .app i e, t, s => match asApp s with
    | some (x, e', b) => b && t.see i x && !isBrw e && notStar e' && chkE G e t e'
    | none => false
  | .appAt i k e, t, s => match asAppAt s with
    | some (x, k', e', b) => b && t.see i x && !isBrw k && !isBrw e && notSlice k' && notStar e' && chkE G k t k' && chkE G e t e'
    | none => false
  | .app2 i k l e, t, s => match asApp2 s with
    | some (x, k', l', e', b) => b && t.see i x && decide (k' = k) && decide (l' = l) && !isBrw e && notStar e' && chkE G e t e'
    | none => false
  | .put i k e, t, s => match asPut s with
    | some (x, k', e') => t.see i x && !isBrw k && !isBrw e && notSlice k' && notComp e' && chkE G k t k' && chkE G e t e'
    | none => false
  | .rput a k e, t, s => match asRput s with
    | some (a', k', e') => !isBrw a && !isBrw k && !isBrw e && notSlice k' && notComp e' && chkE G a t a' && chkE G k t k' && chkE G e t e'
    | none => false
  | .raug a k op e, t, s => match asRaug s with
    | some (a', k', op', e') => isAug op && opB op' op && !isBrw a && !isBrw k && !isBrw e && notSlice k' && chkE G a t a' && chkE G k t k' && chkE G e t e'
    | none => false
  | .expr e, t, .Expr e' _ => !isBrw e && notComp e' && chkE G e t e'
  | .ret e, t, .Return (some e') _ => !isBrw e && chkE G e t e'
  | .retN, _, .Return none _ => true
  | .retMv i, t, s => match asRetN s with
    | some x => t.see i x
    | none => false
  | .ife c a b, t, .If c' a' b' _ => notIf c' && chkE G c t c' && chkSs a t a' && chkSs b t b'
  | .for_ tg it b, t, .For tg' it' b' [] _ => t.calm && notSetI it' && chkI G it t tg' it' && chkT tg t tg' && chkSs b t b'
  | .while_ c b, t, .While c' b' [] _ => t.calm && notIf c' && chkE G c t c' && chkSs b t b'
  | .raise c es, t, s => match asRaise s with
    | some (x, es') => t.calm && decide (x = c) && t.gl x && decide ((L.lookup c).map List.length = some es.length) && chkEs G es t es'
    | none => false
  | .bend i, t, s => match asBend s with
    | some (f, x) => B && t.calm && decide (f = "_law_bend") && t.gl f && t.see i x
    | none => false
  | .nev, _, _ => true
  | .tryS c i s hs, t, st => match asTry st with
    | some (s1, x, n, b, bs) => isOne s && t.calm && decide (x = c) && t.gl x && (L.lookup c).isSome && decide (t.N[i]? = some n) && decide (t.sc.names.lookup n = some .local) && chkS s t s1 && chkSs hs { t with calm := false } (b :: bs)
    | none => false
  | .try2 c1 i1 h1 c2 i2 h2 s, t, st => match asTry2 st with
    | some (s1, (x, n, b, bs), (x2, n2, b2, bs2)) => isOne s && t.calm && (decide (x = c1) && t.gl x && (L.lookup c1).isSome && decide (t.N[i1]? = some n) && decide (t.sc.names.lookup n = some .local))
        && (decide (x2 = c2) && t.gl x2 && (L.lookup c2).isSome && decide (t.N[i2]? = some n2) && decide (t.sc.names.lookup n2 = some .local)) && chkS s t s1 && chkSs h1 { t with calm := false } (b :: bs) && chkSs h2 { t with calm := false } (b2 :: bs2)
    | none => false
  | .retPk k1 n1 k2 i e, t, st => match asPk st with
    | some (a1, m1, a2, x, e') => decide (a1 = k1) && decide (m1 = n1) && decide (a2 = k2) && t.see i x && !isBrw e && notSlice e' && chkE G e t e'
    | none => false
  | .pass, _, .Pass _ => true
  | .brk, _, .Break _ => true
  | .cont, _, .Continue _ => true
  | _, _, _ => false
def chkSs : List S → Inf → List Stmt → Bool
  | .frz _ :: ss, t, ss' => chkSs ss t ss'
  | .ruin i c m a :: ss, t, s1 :: s2 :: ss' => (match asRuin s1 s2 with
    | some (x, c', y, z, e1, e2, b) => b && t.calm && decide (c' = c) && t.see i x && t.see m y && t.see a z && t.sto m y && t.sto a z && isNew e1 && isNew e2
    | none => false) && chkSs ss t ss'
  | [], _, [] => true
  | s :: ss, t, s' :: ss' => chkS s t s' && chkSs ss t ss'
  | _, _, _ => false
end
end

/-! ### raise -/
def tMkX (C : Ctx) (Ca : Addr) (ns : List Str) (fa : Env → M (List D)) : L2.St → Hp → XK → Prop := fun σ H Q => tDA C fa σ H fun vs H1 => (ns = [] → Q (.ref Ca) none H1) ∧ (ns ≠ [] → ∀ d fv, H1 d = none → (∀ (i : Nat) (f : Str) (v : V), ns[i]? = some f → vs[i]? = some v → fv.lookup f = some v) → Q (.ref Ca) (some d) (upd H1 d (.xd fv)))
structure FxS (G : Sig) (L : Cls) (B : Bool) (C : Ctx) (t : Inf) : Prop where
  fx : Fx G C t
  ind : WI C
  po : t.calm = true → PassesOwn (model C.X.prog C.X.w) C.X.A C.X.env C.X.xe
  fr : t.calm = true → C.X.stack = C.X.env :: C.X.outer ∧ C.X.env.frame = some C.X.env.locals
  cl : ∀ c, C.cls c = L.lookup c
  xo : XOk C.K C.X.mg C.cls C.Φ.xi
  rs : t.calm = true → ∀ c ns, L.lookup c = some ns → ns.Nodup ∧ ∃ Ca, C.X.mg c = some (.ref Ca) ∧ ∀ (es : List Expr) (fa : Env → M (List D)) (p pos : Pos), Gl C.X c → es.length = ns.length → es.all notStar = true → OkA C es fa → (∀ ρ μ ds μ', fa ρ μ = .ok ds μ' → ds.length = es.length) → L2.PMk C.X (.Call (.Name c p) es [] pos) (tMkX C Ca ns fa)
  bd : B = true → t.calm = true → ∀ (i : Nat) (x : Str) (p1 p2 p3 pos : Pos), t.see i x = true → t.gl "_law_bend" = true → OkS C (.Expr (.Call (.Name "_law_bend" p1) [.Name x p2] [] p3) pos) (exS C.Φ (.bend i))
theorem lookup_zip : ∀ {ns : List Str} {vs : List V} {i : Nat} {f : Str} {v : V}, ns.Nodup → ns[i]? = some f → vs[i]? = some v → (ns.zip vs).lookup f = some v
  | [], _, _, _, _, _, h, _ => by simp at h
  | n :: ns, [], _, _, _, _, _, h => by simp at h
  | n :: ns, v :: vs, 0, f, x, nd, h1, h2 => by
    simp at h1 h2
    subst h1 h2
    simp [List.lookup]
  | n :: ns, v :: vs, i + 1, f, x, nd, h1, h2 => by
    have nd := List.nodup_cons.mp nd
    have h1 : ns[i]? = some f := by simpa using h1
    have h2 : vs[i]? = some x := by simpa using h2
    have hne : f ≠ n := fun e => nd.1 (by rw [← e]; exact List.mem_of_getElem? h1)
    have e : (f == n) = false := by simpa using hne
    rw [List.zip_cons_cons, List.lookup_cons, e]
    exact lookup_zip nd.2 h1 h2
section
variable {G : Sig} {L : Cls} {B : Bool} {C : Ctx} {t : Inf}
def raiseK (c : Str) (fa : Env → M (List D)) : Env → M Fl := fun ρ => M.bind (fa ρ) fun ds => guard' (D.nbL ds) (M.exc c ds)
theorem ok_raise (F : FxS G L B C t) (hc : t.calm = true) {c : Str} {ns : List Str} {es : List Expr} {fa : Env → M (List D)} {p pos pos2 : Pos} (hL : L.lookup c = some ns) (hg : Gl C.X c) (hl : es.length = ns.length) (hs : es.all notStar = true) (ha : OkA C es fa) (hlen : ∀ ρ μ ds μ', fa ρ μ = .ok ds μ' → ds.length = es.length) :
    OkS C (.Raise (some (.Call (.Name c p) es [] pos)) none pos2) (raiseK c fa) := by
  obtain ⟨nd, Ca, hm, mk⟩ := F.rs hc c ns hL
  refine PS_imp (L2.ps_raise (F.fx.calm hc).1 F.fx.tk (mk es fa p pos hg hl hs ha hlen)) fun Ds σ H ⟨s, ρ, own, μ, e1, p, q⟩ => ⟨s, ρ, own, μ, e1, p, q.bindE.mono fun ds μ1 ⟨he, h1⟩ vs s1 o ev wd r ndo ow => ?_⟩
  obtain ⟨nb, h1⟩ := ResG.guard h1
  have h1 : XRes C σ c ds μ1 := h1
  have e0 := RepL.nb _ _ _ r nb
  subst e0
  have hcl : C.cls c = some ns := by rw [F.cl]; exact hL
  have hnl : ns.length = ds.length := by rw [← hl]; exact (hlen _ _ _ _ he).symm
  have p1 := p.step ev wd
  refine ⟨fun e => ?_, fun hne d fv hd hfv => ?_⟩
  · exact h1 s1 (.ref Ca) none p1.ev wd ⟨Ca, ns, rfl, hm, hcl, hnl, (fun _ => rfl), fun z => absurd e z⟩
  · have et := Ev.tup (s := s1) hd (u := .xd fv)
    refine h1 (s1.tup d (.xd fv)) (.ref Ca) (some d) (p1.ev.trans et) (wd.tup hd) ⟨Ca, ns, rfl, hm, hcl, hnl, (fun z => absurd z hne), fun _ => ⟨d, fv, rfl, upd_same, fun i f x hf hx => ?_⟩⟩
    obtain ⟨v, hv, rv⟩ := r.at_ hx
    exact ⟨v, hfv i f v hf hv, et.rep0 wd rv⟩
/-! ### every statement -/
theorem seq_eq {Φ : Cfg} (s : S) (ss : List S) : exSs Φ (s :: ss) = seqK (exS Φ s) (exSs Φ ss) := rfl
theorem frz_pre {i : Nat} {Φ : Cfg} (s : Sx) (ρ : Env) (σ : L2.St) (own : Nat → List Addr) (μ : Sto) (F : Fl → Sto → Prop) (p : Pre C s ρ σ own μ) (h : ResG C σ (exS Φ (.frz i) ρ μ) F) : ∃ s' ρ' own', s'.H = s.H ∧ Pre C s' ρ' σ own' μ ∧ Go s s' ∧ F (.nx ρ') μ := by
  have h : ResG C σ ((match ρ[i]? with
    | some (some d) => M.ret (.nx (ρ.set i (some d.fz)))
    | _ => M.bad : M Fl) μ) F := h
  cases e : ρ[i]? with
  | none => simp only [e] at h; exact h.elim
  | some od =>
    cases od with
    | none => simp only [e] at h; exact h.elim
    | some d =>
      simp only [e] at h
      obtain ⟨p', g⟩ := p.frz e
      exact ⟨s.less (own i), _, _, rfl, p', g, h.ret⟩
theorem aug_op {op : Bop} {op' : Operator} (h1 : isAug op = true) (h2 : opB op' op = true) : op' = augOp op := by
  cases op <;> first | (cases h1; done) | (cases op' <;> first | rfl | (cases h2; done))
/-- the statement in a try -/
theorem okOne0 {C : Ctx} {t : Inf} (F : Fx G C t) : ∀ (s : S) (st : Stmt), isOne0 s = true → chkS G L B s t st = true → OkS C st (exS C.Φ s)
  | .set fr tg e, st, h1, h => by
    replace h : (match asSetC st with
    | some (y, b, e') => match tNm tg with
      | some i => (b && t.at_ i y && decide (t.sc.names.lookup y = some .local) || t.sto i y && decide (t.sc.names.lookup y = some .cell)) && !isBrw e && isLcE e && chkE G e t e'
      | none => false
    | none => match asSet st with
      | some (tg', e') => !isBrw e && notComp e' && noSwap tg' e' && notStar tg' && chkT tg t tg' && chkE G e t e'
      | none => false) = true := h
    have h1 : (!isLcE e) = true := h1
    cases ea : asSetC st with
    | none =>
      rw [ea] at h
      dsimp only at h
      cases es : asSet st with
      | none => rw [es] at h; cases h
      | some z =>
        obtain ⟨tg', e'⟩ := z
        rw [es] at h
        obtain ⟨pos, rfl⟩ := asSet_ok es
        simp only [Bool.and_eq_true, Bool.not_eq_true'] at h
        obtain ⟨⟨⟨⟨⟨h1, h2⟩, h3⟩, h4⟩, h5⟩, h6⟩ := h
        exact ok_set ((okE F e e' h6).val h1) (okT F tg tg' h5) h2 h3 h4
    | some z =>
      obtain ⟨y, b, e'⟩ := z
      rw [ea] at h
      dsimp only at h
      cases en : tNm tg with
      | none => rw [en] at h; cases h
      | some i =>
        rw [en] at h
        simp only [Bool.and_eq_true] at h
        rw [h.1.2] at h1
        cases h1
  | .expr e, st, _, h => by
    cases st with
    | Expr e' p =>
      replace h : (!isBrw e && notComp e' && chkE G e t e') = true := h
      simp only [Bool.and_eq_true, Bool.not_eq_true'] at h
      exact ok_expr ((okE F e e' h.2).val h.1.1) h.1.2
    | _ => cases h
  | .ret e, st, _, h => by
    cases st with
    | Return v p =>
      cases v with
      | some e' =>
        replace h : (!isBrw e && chkE G e t e') = true := h
        simp only [Bool.and_eq_true, Bool.not_eq_true'] at h
        exact ok_ret ((okE F e e' h.2).val h.1)
      | none => cases h
    | _ => cases h
theorem okOneN {C : Ctx} {t : Inf} (F : Fx G C t) : ∀ (n : Nat) (s : S) (st : Stmt), isOneN n s = true → chkS G L B s t st = true → OkS C st (exS C.Φ s)
  | 0, s, st, h1, h => okOne0 F s st h1 h
  | n + 1, s, st, h1, h => by
    by_cases hs : ∃ c a b, s = .ife c [a] [b]
    · obtain ⟨c, a, b, rfl⟩ := hs
      obtain ⟨ha, hb⟩ := Bool.and_eq_true_iff.mp (show (isOneN n a && isOneN n b) = true from h1)
      cases st with
      | If c' a' b' p =>
        replace h : (notIf c' && chkE G c t c' && chkSs G L B [a] t a' && chkSs G L B [b] t b') = true := h
        simp only [Bool.and_eq_true] at h
        obtain ⟨⟨⟨g1, g2⟩, g3⟩, g4⟩ := h
        have key : ∀ (a : S) (sts : List Stmt), isOneN n a = true → chkSs G L B [a] t sts = true → OkSs C sts (exSs C.Φ [a]) := fun a sts ha g => by
          have g2 : ∃ st, sts = [st] ∧ chkS G L B a t st = true := by
            have hn : (∀ i, a ≠ .frz i) ∧ (∀ i c m z, a ≠ .ruin i c m z) := by
              refine ⟨fun i e => ?_, fun i c m z e => ?_⟩ <;> (subst e; cases n <;> cases ha)
            cases sts with
            | nil => cases a <;> first | exact absurd rfl (hn.1 _) | (cases g; done)
            | cons s1 r =>
              have g : (chkS G L B a t s1 && chkSs G L B [] t r) = true := by
                cases a <;> first | exact g | exact absurd rfl (hn.1 _) | exact absurd rfl (hn.2 _ _ _ _)
              obtain ⟨g1, g2⟩ := Bool.and_eq_true_iff.mp g
              cases r with
              | nil => exact ⟨s1, rfl, g1⟩
              | cons _ _ => cases g2
          obtain ⟨st, rfl, g2⟩ := g2
          have e : exSs C.Φ [a] = exS C.Φ a := by
            funext ρ μ
            show M.bind (exS C.Φ a ρ) _ μ = _
            unfold M.bind
            cases exS C.Φ a ρ μ with
            | ok fl μ' => cases fl <;> rfl
            | exc c fs μ' => rfl
            | bad => rfl
          rw [e]
          exact pss_one (okOneN F n a st ha g2)
        exact ok_if ((okE F c c' g2).tst g1) (key a a' ha g3) (key b b' hb g4)
      | _ => cases h
    · refine okOne0 F s st ?_ h
      cases s with
      | ife c a b =>
        match a, b, hs, h1 with
        | [a], [b], hs, _ => exact absurd ⟨_, _, _, rfl⟩ hs
        | [], _, _, h1 => exact h1
        | _ :: _ :: _, _, _, h1 => exact h1
        | [_], [], _, h1 => exact h1
        | [_], _ :: _ :: _, _, h1 => exact h1
      | _ => exact h1
theorem okOne {C : Ctx} {t : Inf} (F : Fx G C t) (s : S) (st : Stmt) (h1 : isOne s = true) (h : chkS G L B s t st = true) : OkS C st (exS C.Φ s) := okOneN F 4 s st h1 h
theorem FxS.han {C : Ctx} {t : Inf} (F : FxS G L B C t) {a : Addr} {oe : Obj} {cls : Value} {d : Option Addr} {pn : List (Addr × Obj)} {xh : XH} (hz : Zc cls d oe) (hf : ∃ vs, oe.data = .fields vs) (hx : XhOk C a cls d xh) : FxS G L B (C.han a oe pn xh) { t with calm := false } where
  fx := {
    hN := F.fx.hN, hsc := F.fx.hsc, nd := F.fx.nd, kind := F.fx.kind, fn := F.fx.fn, calm := fun h => (by cases h), hu := F.fx.hu, gd := F.fx.gd, hu2 := F.fx.hu2, tk := takes0, blt := F.fx.blt, gls := F.fx.gls, fns := fun h => (by cases h),
    fld := fun _ i x f p1 p2 hs => by
      obtain ⟨a1, a2, a3, a4⟩ := see_ok F.fx hs
      exact ok_fld F.xo hx hz hf a1 a2 a3 a4,
    isE := fun _ i x c p p1 p2 pos hs hg hc => by
      obtain ⟨a1, a2, a3, a4⟩ := see_ok F.fx hs
      exact ok_isE F.xo hx hz hf a1 a2 a3 a4 (gl_ok F.fx hg).1 (bm F.fx (by decide)) (gl_ok F.fx hc).1 (gl_ok F.fx hc).2 }
  ind := fun _ _ _ _ _ h => h
  po := fun h => by cases h
  fr := fun h => by cases h
  cl := F.cl
  xo := F.xo
  rs := fun h => by cases h
  bd := fun _ h => by cases h
mutual
theorem okS {C : Ctx} {t : Inf} (F : FxS G L B C t) : ∀ (s : S) (st : Stmt), chkS G L B s t st = true → OkS C st (exS C.Φ s)
  | .set fr tg e, st, h => by
    replace h : (match asSetC st with
    | some (y, b, e') => match tNm tg with
      | some i => (b && t.at_ i y && decide (t.sc.names.lookup y = some .local) || t.sto i y && decide (t.sc.names.lookup y = some .cell)) && !isBrw e && isLcE e && chkE G e t e'
      | none => false
    | none => match asSet st with
      | some (tg', e') => !isBrw e && notComp e' && noSwap tg' e' && notStar tg' && chkT tg t tg' && chkE G e t e'
      | none => false) = true := h
    cases ea : asSetC st with
    | none =>
      rw [ea] at h
      dsimp only at h
      cases es : asSet st with
      | none => rw [es] at h; cases h
      | some z =>
        obtain ⟨tg', e'⟩ := z
        rw [es] at h
        obtain ⟨pos, rfl⟩ := asSet_ok es
        simp only [Bool.and_eq_true, Bool.not_eq_true'] at h
        obtain ⟨⟨⟨⟨⟨h1, h2⟩, h3⟩, h4⟩, h5⟩, h6⟩ := h
        exact ok_set ((okE F.fx e e' h6).val h1) (okT F.fx tg tg' h5) h2 h3 h4
    | some z =>
      obtain ⟨y, b, e'⟩ := z
      rw [ea] at h
      obtain ⟨py, e1, gs, scope, p, pos, rfl, rfl, eb⟩ := asSetC_ok ea
      dsimp only at h
      cases en : tNm tg with
      | none => rw [en] at h; cases h
      | some i =>
        have et := tNm_ok en
        subst et
        rw [en] at h
        simp only [Bool.and_eq_true, Bool.or_eq_true, Bool.not_eq_true', decide_eq_true_eq] at h
        obtain ⟨⟨⟨hh, h4⟩, h5⟩, h6⟩ := h
        by_cases hcell : t.sto i y = true ∧ t.sc.names.lookup y = some .cell
        · obtain ⟨z1, z2, z3⟩ := sto_ok F.fx hcell.1
          exact ok_setCell ((okE F.fx e _ h6).val h4) (ok_gname F.fx.nd z1 z2 z3) (by rw [F.fx.hsc]; exact hcell.2)
        obtain ⟨⟨h1, h2⟩, h3⟩ := hh.resolve_right hcell
        obtain ⟨hN, _, _⟩ := at_ok F.fx h2
        rw [eb] at h1
        obtain ⟨hl, hs⟩ := Bool.and_eq_true_iff.mp h1
        have hs : (scope.names.any fun (n, k) => n == y && (k == .local || k == .cell)) = false := by simpa using hs
        have hy : C.X.env.scope.names.lookup y = some .local := by rw [F.fx.hsc]; exact h3
        cases e with
        | lc tg it c e =>
          replace h6 : (match asLc (.ListComp e1 gs scope p) with
            | some (e1, tg', it', c', n, scope) => t.calm && decide (n = 0) && !isBrw e && notSetI it' && blkC t.N t.sc scope (ownOf t.N tg.ix) && chkI G it t tg' it' && chkT tg (t.blk scope) tg' && chkC G c (t.blk scope) c' && chkE G e (t.blk scope) e1
            | none => false) = true := h6
          cases ec : asLc (.ListComp e1 gs scope p) with
          | none => rw [ec] at h6; cases h6
          | some z =>
            obtain ⟨e1', tg', it', c', n, scope'⟩ := z
            rw [ec] at h6
            simp only [Bool.and_eq_true, Bool.not_eq_true', decide_eq_true_eq] at h6
            obtain ⟨p', ee⟩ := asLc_ok ec
            cases ee
            obtain ⟨⟨⟨⟨⟨⟨⟨⟨hc, rfl⟩, h2⟩, h3'⟩, h4'⟩, h5'⟩, h6'⟩, h7'⟩, h8'⟩ := h6
            have ok := blkOk_by h4'
            exact ok_setLc (F.fx.calm hc).1 F.fx.nd hN hy F.fx.kind hl hs (okI F.fx it tg' it' h5') (by rw [F.fx.hN, F.fx.hsc]; exact ok) (ownOf_snd _ _) (fun s H a cl fp => okT (F.fx.blk hc ok.kind s H a cl fp) tg tg' h6') (fun s H a cl fp => okC (F.fx.blk hc ok.kind s H a cl fp) c c' h7') (fun s H a cl fp => (okE (F.fx.blk hc ok.kind s H a cl fp) e _ h8').val h2) h3'
        | lc2 tg it tg2 it2 c e =>
          replace h6 : (match asLc2 (.ListComp e1 gs scope p) with
            | some (e1, tg', it', n, tg2', it2', c', n2, scope) => t.calm && decide (n = 0) && decide (n2 = 0) && !isBrw e && notSetI it' && notSetI it2' && blkC t.N t.sc scope (ownOf t.N (tg.ix ++ tg2.ix)) && chkI G it t tg' it' && chkT tg (t.blk scope) tg'
                && chkI G it2 (t.blk scope) tg2' it2' && chkT tg2 (t.blk scope) tg2' && chkC G c (t.blk scope) c' && chkE G e (t.blk scope) e1
            | none => false) = true := h6
          cases ec : asLc2 (.ListComp e1 gs scope p) with
          | none => rw [ec] at h6; cases h6
          | some z =>
            obtain ⟨e1', tg', it', n, tg2', it2', c', n2, scope'⟩ := z
            rw [ec] at h6
            simp only [Bool.and_eq_true, Bool.not_eq_true', decide_eq_true_eq] at h6
            obtain ⟨p', ee⟩ := asLc2_ok ec
            cases ee
            obtain ⟨⟨⟨⟨⟨⟨⟨⟨⟨⟨⟨⟨hc, rfl⟩, rfl⟩, h2⟩, h3'⟩, h3''⟩, h4'⟩, h5'⟩, h6'⟩, h7'⟩, h8'⟩, h9'⟩, h10'⟩ := h6
            have ok := blkOk_by h4'
            exact ok_setLc2 (F.fx.calm hc).1 F.fx.nd hN hy F.fx.kind hl hs (okI F.fx it tg' it' h5') (by rw [F.fx.hN, F.fx.hsc]; exact ok) (ownOf_snd _ _) (fun s H a cl fp => okT (F.fx.blk hc ok.kind s H a cl fp) tg tg' h6') (fun s H a cl fp => okI (F.fx.blk hc ok.kind s H a cl fp) it2 tg2' it2' h7') (fun s H a cl fp => okT (F.fx.blk hc ok.kind s H a cl fp) tg2 tg2' h8') (fun s H a cl fp => okC (F.fx.blk hc ok.kind s H a cl fp) c c' h9') (fun s H a cl fp => (okE (F.fx.blk hc ok.kind s H a cl fp) e _ h10').val h2) h3' h3''
        | _ => cases h5
  | .aug i op e, st, h => by
    cases st with
    | AugAssign tg op' e' p =>
      cases tg with
      | Name x p' =>
        replace h : (isAug op && opB op' op && !isBrw e && t.sto i x && chkE G e t e') = true := h
        simp only [Bool.and_eq_true, Bool.not_eq_true'] at h
        obtain ⟨⟨⟨⟨h1, h2⟩, h3⟩, h4⟩, h5⟩ := h
        have eo := aug_op h1 h2
        subst eo
        obtain ⟨a, b, c⟩ := sto_ok F.fx h4
        exact ok_aug F.fx.nd a b c ((okE F.fx e e' h5).val h3)
      | _ => cases h
    | _ => cases h
  | .app i e, st, h => by
    replace h : (match asApp st with
    | some (x, e', b) => b && t.see i x && !isBrw e && notStar e' && chkE G e t e'
    | none => false) = true := h
    cases ea : asApp st with
    | none => rw [ea] at h; cases h
    | some z =>
      obtain ⟨x, e', b⟩ := z
      rw [ea] at h
      simp only [Bool.and_eq_true, Bool.not_eq_true'] at h
      obtain ⟨p1, ap, cp, pos, rfl, eb⟩ := asApp_ok ea
      obtain ⟨⟨⟨⟨h1, h2⟩, h3⟩, h4⟩, h5⟩ := h
      obtain ⟨a1, a2, a3, a4⟩ := see_ok F.fx h2
      exact ok_app a1 a2 a3 a4 ((okE F.fx e e' h5).val h3) h4 (eb.trans h1)
  | .appAt i k e, st, h => by
    replace h : (match asAppAt st with
    | some (x, k', e', b) => b && t.see i x && !isBrw k && !isBrw e && notSlice k' && notStar e' && chkE G k t k' && chkE G e t e'
    | none => false) = true := h
    cases ea : asAppAt st with
    | none => rw [ea] at h; cases h
    | some z =>
      obtain ⟨x, k', e', b⟩ := z
      rw [ea] at h
      simp only [Bool.and_eq_true, Bool.not_eq_true'] at h
      obtain ⟨p1, p2, ap, cp, pos, rfl, eb⟩ := asAppAt_ok ea
      obtain ⟨⟨⟨⟨⟨⟨⟨h1, h2⟩, h3⟩, h4⟩, h5⟩, h6⟩, h7⟩, h8⟩ := h
      obtain ⟨a1, a2, a3, a4⟩ := see_ok F.fx h2
      exact ok_appAt F.fx.hu a1 a2 a3 a4 ((okE F.fx k k' h7).val h3) h5 ((okE F.fx e e' h8).val h4) h6 (eb.trans h1)
  | .app2 i k l e, st, h => by
    replace h : (match asApp2 st with
    | some (x, k', l', e', b) => b && t.see i x && decide (k' = k) && decide (l' = l) && !isBrw e && notStar e' && chkE G e t e'
    | none => false) = true := h
    cases ea : asApp2 st with
    | none => rw [ea] at h; cases h
    | some z =>
      obtain ⟨x, k', l', e', b⟩ := z
      rw [ea] at h
      simp only [Bool.and_eq_true, Bool.not_eq_true', decide_eq_true_eq] at h
      obtain ⟨p1, p2, p3, n1, n2, q1, q2, ap, cp, pos, rfl, eb⟩ := asApp2_ok ea
      obtain ⟨⟨⟨⟨⟨⟨h1, h2⟩, rfl⟩, rfl⟩, h4⟩, h5⟩, h6⟩ := h
      obtain ⟨a1, a2, a3, a4⟩ := see_ok F.fx h2
      exact ok_app2 F.fx.hu a1 a2 a3 a4 ((okE F.fx e e' h6).val h4) h5 (eb.trans h1)
  | .put i k e, st, h => by
    replace h : (match asPut st with
    | some (x, k', e') => t.see i x && !isBrw k && !isBrw e && notSlice k' && notComp e' && chkE G k t k' && chkE G e t e'
    | none => false) = true := h
    cases ea : asPut st with
    | none => rw [ea] at h; cases h
    | some z =>
      obtain ⟨x, k', e'⟩ := z
      rw [ea] at h
      simp only [Bool.and_eq_true, Bool.not_eq_true'] at h
      obtain ⟨p1, p2, pos, rfl⟩ := asPut_ok ea
      obtain ⟨⟨⟨⟨⟨⟨h2, h3⟩, h4⟩, h5⟩, h6⟩, h7⟩, h8⟩ := h
      obtain ⟨a1, a2, a3, a4⟩ := see_ok F.fx h2
      exact ok_put F.fx.hu a1 a2 a3 a4 ((okE F.fx k k' h7).val h3) h5 ((okE F.fx e e' h8).val h4) h6
  | .rput a k e, st, h => by
    replace h : (match asRput st with
    | some (a', k', e') => !isBrw a && !isBrw k && !isBrw e && notSlice k' && notComp e' && chkE G a t a' && chkE G k t k' && chkE G e t e'
    | none => false) = true := h
    cases ea : asRput st with
    | none => rw [ea] at h; cases h
    | some z =>
      obtain ⟨a', k', e'⟩ := z
      rw [ea] at h
      simp only [Bool.and_eq_true, Bool.not_eq_true'] at h
      obtain ⟨p2, pos, rfl⟩ := asRput_ok ea
      obtain ⟨⟨⟨⟨⟨⟨⟨h2, h3⟩, h4⟩, h5⟩, h6⟩, h7⟩, h8⟩, h9⟩ := h
      exact ok_rput F.fx.hu ((okE F.fx a a' h7).val h2) ((okE F.fx k k' h8).val h3) h5 ((okE F.fx e e' h9).val h4) h6
  | .raug a k op e, st, h => by
    replace h : (match asRaug st with
    | some (a', k', op', e') => isAug op && opB op' op && !isBrw a && !isBrw k && !isBrw e && notSlice k' && chkE G a t a' && chkE G k t k' && chkE G e t e'
    | none => false) = true := h
    cases ea : asRaug st with
    | none => rw [ea] at h; cases h
    | some z =>
      obtain ⟨a', k', op', e'⟩ := z
      rw [ea] at h
      simp only [Bool.and_eq_true, Bool.not_eq_true'] at h
      obtain ⟨p2, pos, rfl⟩ := asRaug_ok ea
      obtain ⟨⟨⟨⟨⟨⟨⟨⟨g1, g2⟩, h2⟩, h3⟩, h4⟩, h5⟩, h7⟩, h8⟩, h9⟩ := h
      have eo := aug_op g1 g2
      subst eo
      exact ok_raug ((okE F.fx a a' h7).val h2) ((okE F.fx k k' h8).val h3) h5 ((okE F.fx e e' h9).val h4)
  | .expr e, st, h => by
    cases st with
    | Expr e' p =>
      replace h : (!isBrw e && notComp e' && chkE G e t e') = true := h
      simp only [Bool.and_eq_true, Bool.not_eq_true'] at h
      exact ok_expr ((okE F.fx e e' h.2).val h.1.1) h.1.2
    | _ => cases h
  | .ret e, st, h => by
    cases st with
    | Return v p =>
      cases v with
      | some e' =>
        replace h : (!isBrw e && chkE G e t e') = true := h
        simp only [Bool.and_eq_true, Bool.not_eq_true'] at h
        exact ok_ret ((okE F.fx e e' h.2).val h.1)
      | none => cases h
    | _ => cases h
  | .retN, st, h => by
    cases st with
    | Return v p =>
      cases v with
      | some e' => cases h
      | none => exact ok_retN
    | _ => cases h
  | .retMv i, st, h => by
    replace h : (match asRetN st with
    | some x => t.see i x
    | none => false) = true := h
    cases ea : asRetN st with
    | none => rw [ea] at h; cases h
    | some x =>
      rw [ea] at h
      obtain ⟨p1, pos, rfl⟩ := asRetN_ok ea
      obtain ⟨a1, a2, a3, a4⟩ := see_ok F.fx h
      exact ok_retMv a1 a2 a3 a4
  | .ife c a b, st, h => by
    cases st with
    | If c' a' b' p =>
      replace h : (notIf c' && chkE G c t c' && chkSs G L B a t a' && chkSs G L B b t b') = true := h
      simp only [Bool.and_eq_true] at h
      exact ok_if ((okE F.fx c c' h.1.1.2).tst h.1.1.1) (okSs F a a' h.1.2) (okSs F b b' h.2)
    | _ => cases h
  | .for_ tg it b, st, h => by
    cases st with
    | For tg' it' b' oe p =>
      cases oe with
      | nil =>
        replace h : (t.calm && notSetI it' && chkI G it t tg' it' && chkT tg t tg' && chkSs G L B b t b') = true := h
        simp only [Bool.and_eq_true] at h
        exact ok_for F.ind (F.po h.1.1.1.1) (F.fx.calm h.1.1.1.1).1 (okI F.fx it tg' it' h.1.1.2) (okT F.fx tg tg' h.1.2) (okSs F b b' h.2) h.1.1.1.2
      | cons _ _ => cases h
    | _ => cases h
  | .while_ c b, st, h => by
    cases st with
    | While c' b' oe p =>
      cases oe with
      | nil =>
        replace h : (t.calm && notIf c' && chkE G c t c' && chkSs G L B b t b') = true := h
        simp only [Bool.and_eq_true] at h
        exact ok_while F.ind (F.po h.1.1.1) ((okE F.fx c c' h.1.2).tst h.1.1.2) (okSs F b b' h.2)
      | cons _ _ => cases h
    | _ => cases h
  | .raise c es, st, h => by
    replace h : (match asRaise st with
    | some (x, es') => t.calm && decide (x = c) && t.gl x && decide ((L.lookup c).map List.length = some es.length) && chkEs G es t es'
    | none => false) = true := h
    cases ea : asRaise st with
    | none => rw [ea] at h; cases h
    | some z =>
      obtain ⟨x, es'⟩ := z
      rw [ea] at h
      simp only [Bool.and_eq_true, decide_eq_true_eq] at h
      obtain ⟨p1, p2, pos, rfl⟩ := asRaise_ok ea
      obtain ⟨⟨⟨⟨hc, rfl⟩, h2⟩, h3⟩, h4⟩ := h
      obtain ⟨ns, hL, hn⟩ := Option.map_eq_some_iff.mp h3
      obtain ⟨hl, hs⟩ := chkEs_ns h4
      exact ok_raise F hc hL (gl_ok F.fx h2).1 (hl.trans hn.symm) hs (okEs F.fx es es' h4) fun ρ μ ds μ' he => (evEs_len he).trans hl.symm
  | .bend i, st, h => by
    replace h : (match asBend st with
    | some (f, x) => B && t.calm && decide (f = "_law_bend") && t.gl f && t.see i x
    | none => false) = true := h
    cases ea : asBend st with
    | none => rw [ea] at h; cases h
    | some z =>
      obtain ⟨f, x⟩ := z
      rw [ea] at h
      simp only [Bool.and_eq_true, decide_eq_true_eq] at h
      obtain ⟨p1, p2, p3, pos, rfl⟩ := asBend_ok ea
      obtain ⟨⟨⟨⟨h1, hc⟩, rfl⟩, h3⟩, h4⟩ := h
      exact F.bd h1 hc i x p1 p2 p3 pos h4 h3
  | .nev, st, h => ⟨fun pins s σ H D I ⟨_, _, _, _, _, _, q⟩ => q.elim⟩
  | .tryS c i s hs, st, h => by
    replace h : (match asTry st with
    | some (s1, x, n, b, bs) => isOne s && t.calm && decide (x = c) && t.gl x && (L.lookup c).isSome && decide (t.N[i]? = some n) && decide (t.sc.names.lookup n = some .local) && chkS G L B s t s1 && chkSs G L B hs { t with calm := false } (b :: bs)
    | none => false) = true := h
    cases ea : asTry st with
    | none => rw [ea] at h; cases h
    | some z =>
      obtain ⟨s1, x, n, b, bs⟩ := z
      rw [ea] at h
      simp only [Bool.and_eq_true, decide_eq_true_eq] at h
      obtain ⟨p1, p2, pos, rfl⟩ := asTry_ok ea
      obtain ⟨⟨⟨⟨⟨⟨⟨⟨h1, hc⟩, rfl⟩, h3⟩, h4⟩, h5⟩, h6⟩, h7⟩, h8⟩ := h
      obtain ⟨ns, hL⟩ := Option.isSome_iff_exists.mp h4
      obtain ⟨_, Ca, hm, _⟩ := F.rs hc _ _ hL
      exact ok_try F.xo (F.fr hc).1 (F.fr hc).2 F.fx.nd (by rw [F.fx.hN]; exact h5) (by show C.X.env.scope.names.lookup n = some .local; rw [F.fx.hsc]; exact h6) (gl_ok F.fx h3).1 (gl_ok F.fx h3).2 hm F.fx.tk (F.fx.calm hc).2
        (fun W pn xe s0 tkW => okOne (C := { C with X := C.X.tr pn xe, W := W, s0 := s0 }) (t := t)
          { hN := F.fx.hN, hsc := F.fx.hsc, nd := F.fx.nd, kind := F.fx.kind, fn := F.fx.fn, calm := F.fx.calm, hu := F.fx.hu, gd := F.fx.gd, hu2 := F.fx.hu2, tk := tkW, blt := F.fx.blt, gls := F.fx.gls, fns := F.fx.fns, fld := fun h => absurd (hc.symm.trans h) (by decide), isE := fun h => absurd (hc.symm.trans h) (by decide) } s s1 h1 h7)
        (fun a oe cls d pn xh hz hf hx => okSs (F.han hz hf hx) hs (b :: bs) h8)
  | .try2 c1 i1 h1' c2 i2 h2' s, st, h => by
    replace h : (match asTry2 st with
    | some (s1, (x, n, b, bs), (x2, n2, b2, bs2)) => isOne s && t.calm && (decide (x = c1) && t.gl x && (L.lookup c1).isSome && decide (t.N[i1]? = some n) && decide (t.sc.names.lookup n = some .local))
        && (decide (x2 = c2) && t.gl x2 && (L.lookup c2).isSome && decide (t.N[i2]? = some n2) && decide (t.sc.names.lookup n2 = some .local)) && chkS G L B s t s1 && chkSs G L B h1' { t with calm := false } (b :: bs) && chkSs G L B h2' { t with calm := false } (b2 :: bs2)
    | none => false) = true := h
    cases ea : asTry2 st with
    | none => rw [ea] at h; cases h
    | some z =>
      obtain ⟨s1, ⟨x, n, b, bs⟩, ⟨x2, n2, b2, bs2⟩⟩ := z
      rw [ea] at h
      simp only [Bool.and_eq_true, decide_eq_true_eq] at h
      obtain ⟨p1, p2, p3, p4, pos, rfl⟩ := asTry2_ok ea
      obtain ⟨⟨⟨⟨⟨⟨h1, hc⟩, ⟨⟨⟨⟨rfl, a3⟩, a4⟩, a5⟩, a6⟩⟩, ⟨⟨⟨⟨rfl, b3⟩, b4⟩, b5⟩, b6⟩⟩, h7⟩, h8⟩, h9⟩ := h
      obtain ⟨ns, hL⟩ := Option.isSome_iff_exists.mp a4
      obtain ⟨ns2, hL2⟩ := Option.isSome_iff_exists.mp b4
      obtain ⟨_, Ca, hm, _⟩ := F.rs hc _ _ hL
      obtain ⟨_, Cb, hm2, _⟩ := F.rs hc _ _ hL2
      exact ok_try2 F.xo (F.fr hc).1 (F.fr hc).2 F.fx.nd F.fx.tk
        (fun W pn xe s0 tkW => okOne (C := { C with X := C.X.tr pn xe, W := W, s0 := s0 }) (t := t)
          { hN := F.fx.hN, hsc := F.fx.hsc, nd := F.fx.nd, kind := F.fx.kind, fn := F.fx.fn, calm := F.fx.calm, hu := F.fx.hu, gd := F.fx.gd, hu2 := F.fx.hu2, tk := tkW, blt := F.fx.blt, gls := F.fx.gls, fns := F.fx.fns, fld := fun h => absurd (hc.symm.trans h) (by decide), isE := fun h => absurd (hc.symm.trans h) (by decide) } s s1 h1 h7)
        { hi := by rw [F.fx.hN]; exact a5, hln := (by show C.X.env.scope.names.lookup n = some .local; rw [F.fx.hsc]; exact a6), hgc := (gl_ok F.fx a3).1, hdc := (gl_ok F.fx a3).2, hcm := hm, hh := fun a oe cls d pn xh hz hf hx => okSs (F.han hz hf hx) h1' (b :: bs) h8 }
        { hi := by rw [F.fx.hN]; exact b5, hln := (by show C.X.env.scope.names.lookup n2 = some .local; rw [F.fx.hsc]; exact b6), hgc := (gl_ok F.fx b3).1, hdc := (gl_ok F.fx b3).2, hcm := hm2, hh := fun a oe cls d pn xh hz hf hx => okSs (F.han hz hf hx) h2' (b2 :: bs2) h9 }
  | .retPk k1 n1 k2 i e, st, h => by
    replace h : (match asPk st with
    | some (a1, m1, a2, x, e') => decide (a1 = k1) && decide (m1 = n1) && decide (a2 = k2) && t.see i x && !isBrw e && notSlice e' && chkE G e t e'
    | none => false) = true := h
    cases ea : asPk st with
    | none => rw [ea] at h; cases h
    | some z =>
      obtain ⟨a1, m1, a2, x, e'⟩ := z
      rw [ea] at h
      simp only [Bool.and_eq_true, Bool.not_eq_true', decide_eq_true_eq] at h
      obtain ⟨j1, j2, j3, j4, j5, q0, q1, q2, q3, q4, q5, q6, q7, q8, rfl⟩ := asPk_ok ea
      obtain ⟨⟨⟨⟨⟨⟨rfl, rfl⟩, rfl⟩, h4⟩, h5⟩, h6⟩, h7⟩ := h
      obtain ⟨z1, z2, z3, z4⟩ := see_ok F.fx h4
      exact ok_retPk z1 z2 z3 z4 ((okE F.fx e e' h7).val h5) h6
  | .ruin i c m a, st, h => by cases st <;> cases h
  | .frz i, st, h => by cases st <;> cases h
  | .pass, st, h => by
    cases st with
    | Pass p => exact ok_pass
    | _ => cases h
  | .brk, st, h => by
    cases st with
    | Break p => exact ok_break
    | _ => cases h
  | .cont, st, h => by
    cases st with
    | Continue p => exact ok_continue
    | _ => cases h
theorem okSs {C : Ctx} {t : Inf} (F : FxS G L B C t) : ∀ (ss : List S) (sts : List Stmt), chkSs G L B ss t sts = true → OkSs C sts (exSs C.Φ ss)
  | [], [], _ => ok_ssnil
  | [], _ :: _, h => by cases h
  | s :: ss, sts, h => by
    by_cases hf : ∃ i, s = .frz i
    · obtain ⟨i, rfl⟩ := hf
      exact ok_sspre (fun s ρ σ own μ F p q => frz_pre s ρ σ own μ F p q) (okSs F ss sts h)
    · by_cases hr : ∃ i c m a s1 s2 r, s = .ruin i c m a ∧ sts = s1 :: s2 :: r
      · obtain ⟨i, c, m, a, s1, s2, r, rfl, rfl⟩ := hr
        replace h : ((match asRuin s1 s2 with
          | some (x, c', y, z, e1, e2, b) => b && t.calm && decide (c' = c) && t.see i x && t.see m y && t.see a z && t.sto m y && t.sto a z && isNew e1 && isNew e2
          | none => false) && chkSs G L B ss t r) = true := h
        obtain ⟨h, hrest⟩ := Bool.and_eq_true_iff.mp h
        unfold asRuin at h
        cases q1 : asLoop s1 with
        | none => rw [q1] at h; cases h
        | some z1 =>
          obtain ⟨y, z, x, c', t1, t2⟩ := z1
          cases q2 : asLast s2 with
          | none => rw [q1, q2] at h; cases h
          | some z2 =>
            obtain ⟨x', c'', b3⟩ := z2
            rw [q1, q2] at h
            dsimp only at h
            cases q3 : asAp1 t1 with
            | none => rw [q3] at h; cases h
            | some z3 =>
              obtain ⟨y', e1, b1⟩ := z3
              cases q4 : asAp1 t2 with
              | none => rw [q3, q4] at h; cases h
              | some z4 =>
                obtain ⟨z', e2, b2⟩ := z4
                rw [q3, q4] at h
                simp only [Bool.and_eq_true, decide_eq_true_eq] at h
                obtain ⟨⟨⟨⟨⟨⟨⟨⟨⟨⟨⟨⟨⟨⟨⟨rfl, rfl⟩, rfl⟩, rfl⟩, rfl⟩, rfl⟩, rfl⟩, hc⟩, rfl⟩, hx⟩, hy⟩, hz⟩, sy⟩, sz⟩, n1⟩, n2⟩ := h
                obtain ⟨p3, p4, k1, p5, p6, k2, p7, p8, q5, rfl⟩ := asLoop_ok q1
                obtain ⟨q6, k3, q7, q8, r1, k4, r3, r2, r4, rfl, l3⟩ := asLast_ok q2
                obtain ⟨p9, p1, p2, q9, rfl, l1⟩ := asAp1_ok q3
                obtain ⟨q3', q1', q2', q4', rfl, l2⟩ := asAp1_ok q4
                obtain ⟨a1, a2, a3, a4⟩ := see_ok F.fx hx
                obtain ⟨b1, b2, b3, b4⟩ := see_ok F.fx hy
                obtain ⟨c1, c2, c3, c4⟩ := see_ok F.fx hz
                obtain ⟨_, ly, fy⟩ := sto_ok F.fx sy
                obtain ⟨_, lz, fz⟩ := sto_ok F.fx sz
                exact ok_ruin F.ind (F.po hc) (F.fx.calm hc).1 F.fx.nd ⟨a1, a2, a3, a4⟩ ⟨b1, b2, b3, b4⟩ ⟨c1, c2, c3, c4⟩ ly lz fy fz n1 n2 l1 l2 l3 (okSs F ss r hrest)
      cases sts with
      | nil => cases s <;> first | cases h | exact absurd ⟨_, rfl⟩ hf
      | cons st sts =>
        replace h : (chkS G L B s t st && chkSs G L B ss t sts) = true := by
          cases s <;> first | exact h | exact absurd ⟨_, rfl⟩ hf | (cases sts <;> first | exact h | exact absurd ⟨_, _, _, _, _, _, _, rfl, rfl⟩ hr)
        obtain ⟨h1, h2⟩ := Bool.and_eq_true_iff.mp h
        exact ok_sscons F.ind (okS F s st h1) (okSs F ss sts h2)
end
end
end Vf

/-! V15 -/
set_option autoImplicit false
set_option linter.all false
set_option Elab.async false
set_option maxHeartbeats 4000000
set_option maxRecDepth 10000
/-! V15: the defs of the table. -/
namespace Vf
open PySem PySem.Spec PyProof.Rows L2

theorem room128 {k : Nat} {A : Around} (r : L2.Room k A) : A.units + 128 < cLine := by have := r.un; omega
structure FI where
  st : Stmt
  N : List Str
  ps : List Str
  fn : Fn
def scopeC (N P : List Str) (sc : Scope) : Bool :=
  decide (sc.kind = .function) && !sc.isCoroutine && !sc.isGenerator && decide N.Nodup && decide (N.take P.length = P) && P.all (fun x => decide (sc.names.lookup x = some .local) || decide (sc.names.lookup x = some .cell)) && sc.names.all (fun y => !decide (y.2 = .free))
theorem scope_by {N P : List Str} {sc : Scope} (h : scopeC N P sc = true) : FnScope N P sc := by
  unfold scopeC at h
  simp only [Bool.and_eq_true, Bool.not_eq_true', decide_eq_true_eq, List.all_eq_true, Bool.or_eq_true, decide_eq_false_iff_not] at h
  obtain ⟨⟨⟨⟨⟨⟨h1, h2⟩, h3⟩, h4⟩, h5⟩, h6⟩, h7⟩ := h
  exact ⟨h1, h2, h3, h4, h5, h6, h7⟩
def fiOk (G : Sig) (L : Cls) (B : Bool) (fi : FI) : Bool :=
  scopeC fi.N fi.ps (defScope fi.st) && decide (fi.ps.length = fi.fn.np) && decide (fi.N.length = fi.fn.ns) && decide (fi.fn.np ≤ fi.fn.ns) && chkSs G L B fi.fn.body ⟨fi.N, defScope fi.st, none, true⟩ (defBody fi.st)
/-- an exception class that can be made -/
def ExcAb (K : PySem.W.Frag) (mg : Str → Option Value) (c : Str) (ns : List Str) (Ca : Addr) : Prop :=
  ∀ (C : Ctx), C.X.K = K → C.X.mg = mg → C.X.calm = true → Room 2 C.X.A → ∀ (es : List Expr) (fa : Env → M (List D)) (p pos : Pos), Gl C.X c → es.length = ns.length → es.all notStar = true → OkA C es fa → (∀ ρ μ ds μ', fa ρ μ = .ok ds μ' → ds.length = es.length) → L2.PMk C.X (.Call (.Name c p) es [] pos) (tMkX C Ca ns fa)
/-- what a def's body needs at the level k -/
structure Need (G : Sig) (L : Cls) (B : Bool) (P : Program) (w : World) (K : PySem.W.Frag) (mg : Str → Option Value) (base : Heap) (k : Nat) (Φ : Cfg) : Prop where
  blt : ∀ x ∈ bltN, mg x = none
  gls : ∀ x d, Φ.gl x = some d → ∃ v u, mg x = some u ∧ RelV v u ∧ ∀ s, Rep K w s d v []
  fns : ∀ f np, G.lookup f = some np → ∃ fa fd ps, mg f = some (.ref fa) ∧ PySem.W.keepIn K (.ref fa) = true ∧ Binds K fd ps [] ∧
    FnG P w K mg base (k + 2) fa fd ps (SpF K w mg (fun c => L.lookup c) np (Φ.fn f))
  rs : ∀ c ns, L.lookup c = some ns → ns.Nodup ∧ ∃ Ca, mg c = some (.ref Ca) ∧ ExcAb K mg c ns Ca
  xo : XOk K mg (fun c => L.lookup c) Φ.xi
  bd : B = true → ∀ (C : Ctx) (t : Inf), C.Φ = Φ → C.X.prog = P → C.X.w = w → C.X.K = K → C.X.mg = mg → C.X.base = base → Room (k + 2) C.X.A → Fx G C t → ∀ (i : Nat) (x : Str) (p1 p2 p3 pos : Pos), t.see i x = true → t.gl "_law_bend" = true →
    OkS C (.Expr (.Call (.Name "_law_bend" p1) [.Name x p2] [] p3) pos) (exS C.Φ (.bend i))
section
variable {G : Sig} {L : Cls} {B : Bool} {P : Program} {w : World} {K : PySem.W.Frag} {mg : Str → Option Value} {base : Heap} {k : Nat} {Φ : Cfg} {f : Str} {fa : Addr} {fd : FuncData} {fi : FI}
theorem start_len {n : Nat} {ds : List D} (h : ds.length ≤ n) : (Vf.start n ds).length = n := by
  unfold Vf.start
  rw [List.length_append, List.length_map, List.length_replicate]
  omega
theorem step_ok (h : fiOk G L B fi = true) (F : L2.Fun K f f fi.st fa fd) (Nd : Need G L B P w K mg base k Φ) : FnG P w K mg base (k + 2 + 1) fa fd fi.ps (SpF K w mg (fun c => L.lookup c) fi.fn.np (runFn Φ fi.fn)) := by
  unfold fiOk at h
  simp only [Bool.and_eq_true, decide_eq_true_eq] at h
  obtain ⟨⟨⟨⟨h1, h2⟩, h3⟩, h4⟩, h5⟩ := h
  have sc := scope_by h1
  refine fnG F sc (fun vs H Q E h => h.1.trans h2.symm) fun cdv A outer s H vs Q E hg hr h => ?_
  obtain ⟨hl, sx, ds, μ, e1, W, r, hF⟩ := h
  refine ⟨tS ⟨cxOf (L2.CX P w) P w K mg base fi.N f (defScope fi.st) fa cdv A outer s H E, (fun c d _ h => E c d h), Φ, sx, (fun c => L.lookup c), none⟩ (exSs Φ fi.fn.body), ?_, ?_⟩
  · refine okSs (G := G) (L := L) (B := B) (t := ⟨fi.N, defScope fi.st, none, true⟩) (C := ⟨cxOf (L2.CX P w) P w K mg base fi.N f (defScope fi.st) fa cdv A outer s H E, (fun c d _ h => E c d h), Φ, sx, (fun c => L.lookup c), none⟩) ?_ fi.fn.body (defBody fi.st) h5
    have fx : Fx G ⟨cxOf (L2.CX P w) P w K mg base fi.N f (defScope fi.st) fa cdv A outer s H E, (fun c d _ h => E c d h), Φ, sx, (fun c => L.lookup c), none⟩ ⟨fi.N, defScope fi.st, none, true⟩ :=
      { hN := rfl, hsc := rfl, nd := sc.nd, kind := sc.kind, fn := fun _ => rfl, calm := fun _ => ⟨rfl, rfl⟩, hu := hr.units, gd := hg, hu2 := room128 hr, tk := takes_of rfl rfl rfl rfl, blt := Nd.blt, gls := Nd.gls,
        fld := fun h => (by cases h), isE := fun h => (by cases h),
        fns := fun _ f np hf => by
          obtain ⟨fa, fd, ps, a, b, c, d⟩ := Nd.fns f np hf
          exact ⟨k + 2, fa, fd, ps, a, b, c, hr, d⟩ }
    exact { fx := fx, ind := fun _ _ _ _ _ h => h, po := fun _ => passes_of rfl, fr := fun _ => ⟨rfl, rfl⟩, cl := fun _ => rfl, xo := Nd.xo,
            rs := fun _ c ns hL => by
              obtain ⟨a, Ca, b, d⟩ := Nd.rs c ns hL
              exact ⟨a, Ca, b, fun es fa p pos hg hl hs ha hn => d _ rfl rfl rfl (hr.mono (Nat.le_add_left 2 k)) es fa p pos hg hl hs ha hn⟩,
            bd := fun hB _ i x p1 p2 p3 pos hs hg => Nd.bd hB _ _ rfl rfl rfl rfl rfl rfl hr fx i x p1 p2 p3 pos hs hg }
  · have hl2 : ds.length = fi.fn.np := by rw [r.len, hl]
    refine ⟨sx, Vf.start fi.fn.ns ds, fun _ => [], μ, e1, ⟨⟨fun i d hd => ?_, (fun i a z => nomatch z), fun i => List.nodup_nil, (fun i j a _ z => nomatch z), ?_⟩, W, Ev.refl sx, (fun i a z => nomatch z)⟩, ?_⟩
    · unfold Vf.start at hd
      by_cases hi : i < ds.length
      · rw [List.getElem?_append_left (by rw [List.length_map]; exact hi), List.getElem?_map] at hd
        obtain ⟨d', hd', e⟩ := Option.map_eq_some_iff.mp hd
        cases e
        obtain ⟨v, hv, rv⟩ := r.at_ hd'
        refine ⟨v, ?_, RepX.of rv⟩
        unfold L2.start
        rw [List.getElem?_append_left (by rw [List.length_map]; exact (List.getElem?_eq_some_iff.mp hv).1), List.getElem?_map, hv]
        rfl
      · rw [List.getElem?_append_right (by rw [List.length_map]; omega)] at hd
        have := List.mem_of_getElem? hd
        rw [List.mem_replicate] at this
        cases this.2
    · rw [start_len (by rw [hl2]; exact h4)]
      unfold L2.start
      rw [List.length_append, List.length_map, List.length_replicate, h3, hl]
      omega
    · have hF : ResF K w mg (fun c => L.lookup c) sx Q E (guard' (decide (ds.length = fi.fn.np)) (M.bind (exSs Φ fi.fn.body (Vf.start fi.fn.ns ds)) endFl) μ) := hF
      rw [hl2, decide_eq_true rfl] at hF
      have hF : ResF K w mg (fun c => L.lookup c) sx Q E (M.bind (exSs Φ fi.fn.body (Vf.start fi.fn.ns ds)) endFl μ) := hF
      unfold M.bind at hF
      show ResG _ _ (exSs Φ fi.fn.body (Vf.start fi.fn.ns ds) μ) _
      cases hx : exSs Φ fi.fn.body (Vf.start fi.fn.ns ds) μ with
      | ok fl μ1 =>
        rw [hx] at hF
        cases fl with
        | nx ρ' => exact fun σ' own' s' p' g' => hF .non s' [] (Post.scal p'.ev p'.wd ⟨rfl, rfl⟩)
        | rt d => exact fun v s' o po => hF v s' o po
        | brk _ => exact hF.elim
        | cont _ => exact hF.elim
      | exc c fs μ1 =>
        rw [hx] at hF
        exact fun s' Cl dd e' W' X' => hF s' Cl dd e' W' X'
      | bad =>
        rw [hx] at hF
        exact hF.elim
theorem bad_ok {np : Nat} {ps : List Str} (h : ps.length = np) : FnG P w K mg base 2 fa fd ps (SpF K w mg (fun c => L.lookup c) np (fun _ => M.bad)) :=
  ⟨fun vs H Q E q => q.1.trans h.symm, fun A outer s H args us vs Q E _ _ _ _ _ q => by
    obtain ⟨_, _, _, _, _, _, _, z⟩ := q
    exact z.elim⟩
end
/-! ### the whole table -/
structure Rows (G : Sig) (L : Cls) (B : Bool) (T1 : List (Str × FI)) (p : Prog) (P : Program) (w : World) (K : PySem.W.Frag) (mg : Str → Option Value) (base : Heap) : Prop where
  tab : ∀ f, p.tab.lookup f = (T1.lookup f).map FI.fn
  ok : ∀ f fi, T1.lookup f = some fi → fiOk G L B fi = true
  sig : ∀ f np, G.lookup f = some np → (p.prim.lookup f = none ∧ ∃ fi, T1.lookup f = some fi ∧ fi.fn.np = np) ∨ ∃ g, p.prim.lookup f = some g
  at_ : ∀ f fi, T1.lookup f = some fi → ∃ fa fd, mg f = some (.ref fa) ∧ L2.Fun K f f fi.st fa fd ∧ Binds K fd fi.ps []
  blt : ∀ x ∈ bltN, mg x = none
  gls : ∀ x d, p.gl.lookup x = some d → ∃ v u, mg x = some u ∧ RelV v u ∧ ∀ s, Rep K w s d v []
  rs : ∀ c ns, L.lookup c = some ns → ns.Nodup ∧ ∃ Ca, mg c = some (.ref Ca) ∧ ExcAb K mg c ns Ca
  xo : XOk K mg (fun c => L.lookup c) p.xi
  bd : B = true → ∀ k (C : Ctx) (t : Inf), C.Φ = ⟨run p k, fun x => p.gl.lookup x, p.xi⟩ → C.X.prog = P → C.X.w = w → C.X.K = K → C.X.mg = mg → C.X.base = base → Room (k + 2) C.X.A → Fx G C t → ∀ (i : Nat) (x : Str) (p1 p2 p3 pos : Pos), t.see i x = true → t.gl "_law_bend" = true →
    OkS C (.Expr (.Call (.Name "_law_bend" p1) [.Name x p2] [] p3) pos) (exS C.Φ (.bend i))
  prim : ∀ f np g, G.lookup f = some np → p.prim.lookup f = some g → ∃ fa fd ps, mg f = some (.ref fa) ∧ PySem.W.keepIn K (.ref fa) = true ∧ Binds K fd ps [] ∧ ps.length = np ∧
    ∀ k Φ, Need G L B P w K mg base k Φ → FnG P w K mg base (k + 2 + 1) fa fd ps (SpF K w mg (fun c => L.lookup c) np (g Φ))
section
variable {G : Sig} {L : Cls} {B : Bool} {T1 : List (Str × FI)} {p : Prog} {P : Program} {w : World} {K : PySem.W.Frag} {mg : Str → Option Value} {base : Heap}
theorem Rows.need (R : Rows G L B T1 p P w K mg base) {k : Nat} (h : ∀ f np, G.lookup f = some np → ∃ fa fd ps, mg f = some (.ref fa) ∧ PySem.W.keepIn K (.ref fa) = true ∧ Binds K fd ps [] ∧
    FnG P w K mg base (k + 2) fa fd ps (SpF K w mg (fun c => L.lookup c) np (run p k f))) : Need G L B P w K mg base k ⟨run p k, fun x => p.gl.lookup x, p.xi⟩ :=
  ⟨R.blt, R.gls, h, R.rs, R.xo, fun hB C t e0 e1 e2 e3 e4 e5 hr F => R.bd hB k C t e0 e1 e2 e3 e4 e5 hr F⟩
theorem Rows.all (R : Rows G L B T1 p P w K mg base) : ∀ (k : Nat) (f : Str) (np : Nat), G.lookup f = some np → ∃ fa fd ps, mg f = some (.ref fa) ∧ PySem.W.keepIn K (.ref fa) = true ∧ Binds K fd ps [] ∧
    FnG P w K mg base (k + 2) fa fd ps (SpF K w mg (fun c => L.lookup c) np (run p k f))
  | 0, f, np, h => by
    rcases R.sig f np h with ⟨_, fi, h1, h2⟩ | ⟨g, hg⟩
    · obtain ⟨fa, fd, a, b, c⟩ := R.at_ f fi h1
      have ok := R.ok f fi h1
      unfold fiOk at ok
      simp only [Bool.and_eq_true, decide_eq_true_eq] at ok
      exact ⟨fa, fd, fi.ps, a, b.kp, c, bad_ok (ok.1.1.1.2.trans h2)⟩
    · obtain ⟨fa, fd, ps, a, b, c, d, _⟩ := R.prim f np g h hg
      exact ⟨fa, fd, ps, a, b, c, bad_ok d⟩
  | k + 1, f, np, h => by
    have nd := R.need (R.all k)
    rcases R.sig f np h with ⟨hp, fi, h1, h2⟩ | ⟨g, hg⟩
    · obtain ⟨fa, fd, a, b, c⟩ := R.at_ f fi h1
      have z := step_ok (R.ok f fi h1) b nd
      have e : run p (k + 1) f = runFn ⟨run p k, fun x => p.gl.lookup x, p.xi⟩ fi.fn := by
        funext ds
        show (match p.prim.lookup f with
          | some g => g ⟨run p k, fun x => p.gl.lookup x, p.xi⟩ ds
          | none => match p.tab.lookup f with
            | some fn => runFn ⟨run p k, fun x => p.gl.lookup x, p.xi⟩ fn ds
            | none => M.bad) = _
        rw [hp, R.tab, h1]
        rfl
      rw [e, ← h2]
      exact ⟨fa, fd, fi.ps, a, b.kp, c, z⟩
    · obtain ⟨fa, fd, ps, a, b, c, d, q⟩ := R.prim f np g h hg
      have e : run p (k + 1) f = g ⟨run p k, fun x => p.gl.lookup x, p.xi⟩ := by
        funext ds
        show (match p.prim.lookup f with
          | some g => g ⟨run p k, fun x => p.gl.lookup x, p.xi⟩ ds
          | none => _) = _
        rw [hg]
      rw [e]
      exact ⟨fa, fd, ps, a, b, c, q k _ nd⟩
end
end Vf

/-! V16 -/
set_option autoImplicit false
set_option linter.all false
set_option Elab.async false
set_option maxHeartbeats 4000000
set_option maxRecDepth 10000
/-! V16: the law's end. -/
namespace Vf
open PySem PySem.Spec PyProof.Rows L2

/-- the law's promise -/
def spLaw (K : PySem.W.Frag) (n : Nat) : Sp := fun vs H Q _ => ∃ (a : Addr) (ns : List Int), vs = [.ref a] ∧ ns.length ≤ n ∧ SqL K H a (ns.map V.int) ∧ ∀ H', Q (.bl true) H'
/-- a def as the top has written it -/
def DefAt (K : PySem.W.Frag) (f : Str) (st : Stmt) : Prop := ∃ (fa : Addr) (oc : Value) (od : Option Addr) (kV doc pm : Value) (an : Option Addr) (cdv ct : Value) (osl : Array (Option Value)),
  PySem.W.nsIn K mainGlobals f = some (some (.ref fa)) ∧ K.lookup fa = some ⟨oc, od, .func (PySem.W.fnOf f f (defArgs st) (defBody st) (defScope st) .none kV doc pm an cdv ct), osl⟩ ∧ PySem.W.codeIn K cdv f = true ∧ PySem.W.keepIn K (.ref fa) = true
theorem mkDef {K : PySem.W.Frag} {h : Heap} (_ : K.In h) {f : Str} {st : Stmt} {fa : Addr} {oc : Value} {od : Option Addr} {kV doc pm : Value} {an : Option Addr} {cdv ct : Value} {osl : Array (Option Value)}
    (a : PySem.W.nsIn K mainGlobals f = some (some (.ref fa))) (l : K.lookup fa = some ⟨oc, od, .func (PySem.W.fnOf f f (defArgs st) (defBody st) (defScope st) .none kV doc pm an cdv ct), osl⟩) (c : PySem.W.codeIn K cdv f = true) (k : PySem.W.keepIn K (.ref fa) = true) : DefAt K f st :=
  ⟨fa, oc, od, kV, doc, pm, an, cdv, ct, osl, a, l, c, k⟩
/-- how a def binds -/
def BindsAt (f : Str) (st : Stmt) (ps : List Str) : Prop := ∀ (kV doc pm : Value) (an : Option Addr) (cdv ct : Value) (us : List Value), us.length = ps.length → bindArgs (PySem.W.fnOf f f (defArgs st) (defBody st) (defScope st) .none kV doc pm an cdv ct) ⟨us, []⟩ = pure (ps.zip us)
section
variable {G : Sig} {L : Cls} {B : Bool} {T1 : List (Str × FI)} {p : Prog} {P : Program} {w : World} {K : PySem.W.Frag} {mg : Str → Option Value} {base : Heap}
theorem lookup_mem {β : Type} {f : Str} {v : β} : ∀ {l : List (Str × β)}, l.lookup f = some v → (f, v) ∈ l
  | [], h => by cases h
  | (g, u) :: l, h => by
    rw [List.lookup_cons] at h
    by_cases e : (f == g) = true
    · rw [e] at h
      cases h
      have e : f = g := by simpa using e
      rw [e]; exact List.mem_cons_self
    · have e : (f == g) = false := by simpa using e
      rw [e] at h
      exact List.mem_cons_of_mem _ (lookup_mem h)
theorem at_of {h : Heap} (X : K.In h) (N : h.Ns mainGlobals mg) (hd : ∀ q ∈ T1, DefAt K q.1 q.2.st ∧ BindsAt q.1 q.2.st q.2.ps) : ∀ f fi, T1.lookup f = some fi → ∃ fa fd, mg f = some (.ref fa) ∧ L2.Fun K f f fi.st fa fd ∧ Binds K fd fi.ps [] := fun f fi e => by
  obtain ⟨⟨fa, oc, od, kV, doc, pm, an, cdv, ct, osl, a, l, c, k⟩, b⟩ := hd (f, fi) (lookup_mem e)
  have F := fun_mk l c k
  exact ⟨fa, _, PySem.W.mg_of X N a, F, F.binds b⟩
theorem law_ok {k j n : Nat} {fa : Addr} {fd : FuncData} {ps : List Str} (F : FnG P w K mg base j fa fd ps (SpF K w mg (fun c => L.lookup c) 1 (run p k "law")))
    (hrun : ∀ ns : List Int, ns.length ≤ n → ∃ μ, run p k "law" [.lst false (ns.map .int)] [] = .ok (.bl true) μ) : FnG P w K mg base j fa fd ps (spLaw K n) :=
  F.imp fun vs H Q E h => by
    obtain ⟨a, ns, rfl, hl, hS, q⟩ := h
    obtain ⟨μ, er⟩ := hrun ns hl
    refine ⟨rfl, ⟨H, fun _ => False, []⟩, [.lst false (ns.map .int)], [], rfl, ⟨fun _ z => z.elim, (fun _ z => nomatch z), List.nodup_nil, rfl, fun n a ds h => by simp at h⟩, RepL.cons ⟨a, ns.map V.int, rfl, ?_, rfl, ints_rep ns⟩ ⟨rfl, rfl⟩, ?_⟩
    · exact hS.imp (fun z => ⟨z, fun z => z⟩) id
    · rw [er]
      intro v s' o po
      rw [po.rep.1]
      exact q _
theorem nox_end {outer : List PySem.Env} {H : Hp} {s : Shared} {e : Value} {s' : Shared} (h : L2.CX P w outer H s (fun _ _ _ => False) e s') : False := by
  obtain ⟨_, _, _, _, _, _, _, _, _, _, _, _, z⟩ := h
  exact z.elim
end
end Vf

/-! V17 -/
set_option autoImplicit false
set_option linter.all false
set_option Elab.async false
set_option maxHeartbeats 4000000
set_option maxRecDepth 10000
/-! V17: exceptions with an own __init__. -/
namespace Vf
open PySem PySem.Spec PyProof.Rows L2

theorem ResG.monoE {α : Type} {C : Ctx} {σ : L2.St} {r : R α} {F F' : α → Sto → Prop} (h : ResG C σ r F) (k : ∀ a μ, r = .ok a μ → F a μ → F' a μ) : ResG C σ r F' := by
  cases r with
  | ok a μ1 => exact k a μ1 rfl h
  | exc c fs μ1 => exact h
  | bad => exact h.elim
theorem lookup_nd {β : Type} {f : Str} {v : β} : ∀ {l : List (Str × β)}, (l.map (·.1)).Nodup → (f, v) ∈ l → l.lookup f = some v
  | [], _, h => by cases h
  | (g, u) :: l, nd, h => by
    rw [List.map_cons] at nd
    have nd := List.nodup_cons.mp nd
    rw [List.lookup_cons]
    rcases List.mem_cons.mp h with h | h
    · cases h; simp
    · have hne : f ≠ g := fun e => nd.1 (by rw [← e]; exact List.mem_map.mpr ⟨_, h, rfl⟩)
      have e : (f == g) = false := by simpa using hne
      rw [e]
      exact lookup_nd nd.2 h
theorem mem_zip : ∀ {ns : List Str} {vs : List V} {i : Nat} {f : Str} {v : V}, ns[i]? = some f → vs[i]? = some v → (f, v) ∈ ns.zip vs
  | [], _, _, _, _, h, _ => by simp at h
  | n :: ns, [], _, _, _, _, h => by simp at h
  | n :: ns, v :: vs, 0, f, x, h1, h2 => by
    simp at h1 h2
    subst h1 h2
    exact List.mem_cons_self
  | n :: ns, v :: vs, i + 1, f, x, h1, h2 => by
    rw [List.zip_cons_cons]
    exact List.mem_cons_of_mem _ (mem_zip (by simpa using h1) (by simpa using h2))
theorem lookup_rev {ns : List Str} {vs : List V} {i : Nat} {f : Str} {v : V} (nd : ns.Nodup) (hl : ns.length = vs.length) (h1 : ns[i]? = some f) (h2 : vs[i]? = some v) : ((ns.zip vs).reverse ++ []).lookup f = some v := by
  rw [List.append_nil]
  refine lookup_nd ?_ (List.mem_reverse.mpr (mem_zip h1 h2))
  rw [List.map_reverse, (List.reverse_perm _).nodup_iff, List.map_fst_zip (by omega)]
  exact nd
def tIn (K : PySem.W.Frag) : Nat → List Str → TS
  | _, [] => tNext
  | k, f :: r => tSeq (tOst K f (tVar 0) (tVar k)) (tIn K (k + 1) r)
theorem tI_more {K : PySem.W.Frag} {C a d : Addr} (T : OexC K C) : ∀ (ns : List Str) (vs : List V) (k : Nat) (D : L2.Ends) (σ : L2.St) (H : Hp) (fs : List (Str × V)), (∀ f ∈ ns, PySem.W.findIn K (.ref C) f = some none) → σ[0]? = some (some (.ref a)) → ns.length = vs.length → (∀ i v, vs[i]? = some v → σ[k + i]? = some (some v)) →
    H a = some (exo a C (some d)) → H d = some (exd d fs) → d ≠ a → fs.length + ns.length ≤ 900 →
    (∀ H', H' a = some (exo a C (some d)) → H' d = some (exd d ((ns.zip vs).reverse ++ fs)) → (∀ b, b ≠ a → b ≠ d → H' b = H b) → D.nx σ H') → tIn K k ns D σ H
  | [], [], k, D, σ, H, fs, _, _, _, _, ha, hd, _, _, q => q H ha hd fun _ _ _ => rfl
  | [], _ :: _, _, _, _, _, _, _, _, h, _, _, _, _, _, _ => by cases h
  | _ :: _, [], _, _, _, _, _, _, _, h, _, _, _, _, _, _ => by cases h
  | f :: ns, v :: vs, k, D, σ, H, fs, hno, h0, hl, hs, ha, hd, hda, hz, q => by
    refine ⟨v, by simpa using hs 0 v rfl, .ref a, h0, a, C, rfl, T, hno f List.mem_cons_self, .inr ⟨d, fs, ha, hd, by simp at hz; omega, ?_⟩⟩
    refine tI_more T ns vs (k + 1) D σ _ ((f, v) :: fs) (fun g hg => hno g (List.mem_cons_of_mem _ hg)) h0 (by simpa using hl) (fun i v hv => ?_) ?_ upd_same hda (by simp at hz ⊢; omega) fun H' h1 h2 h3 => ?_
    · have := hs (i + 1) v (by simpa using hv)
      rwa [show k + (i + 1) = k + 1 + i by omega] at this
    · rw [upd_ne (Ne.symm hda)]; exact ha
    · refine q H' h1 (by rw [h2]; simp) fun b hb1 hb2 => ?_
      rw [h3 b hb1 hb2, upd_ne hb2]
/-- what an own __init__ promises -/
def SpI (K : PySem.W.Frag) (C : Addr) (ns : List Str) : Sp := fun vs H Q _ => ∃ (a : Addr) (ws : List V), vs = .ref a :: ws ∧ ws.length = ns.length ∧ OexC K C ∧ H a = some (exo a C none) ∧
  ∀ dx H', H dx = none → dx ≠ a → H' a = some (exo a C (some dx)) → H' dx = some (exd dx ((ns.zip ws).reverse ++ [])) → (∀ b, b ≠ a → b ≠ dx → H' b = H b) → Q .non H'
def asOst : Stmt → Option (Str × Str × Str)
  | .Assign [.Attribute (.Name o _) f _] (.Name x _) _ => some (o, f, x)
  | _ => none
theorem asOst_ok {s : Stmt} {o f x : Str} (h : asOst s = some (o, f, x)) : ∃ p1 p2 p3 p4, s = .Assign [.Attribute (.Name o p1) f p2] (.Name x p3) p4 := by
  unfold asOst at h; split at h <;> cases h; exact ⟨_, _, _, _, rfl⟩
def iniB (t : Inf) (o : Str) : Nat → List Str → List Stmt → Bool
  | _, [], [] => true
  | k, f :: r, s :: ss => (match asOst s with
    | some (o', f', x) => decide (o' = o) && decide (f' = f) && t.see k x
    | none => false) && iniB t o (k + 1) r ss
  | _, _, _ => false
theorem see_x {X : Cx} {t : Inf} (hN : X.N = t.N) (hsc : X.env.scope = t.sc) {i : Nat} {x : Str} (h : t.see i x = true) : X.N[i]? = some x ∧ Vis X.env.scope x ∧ (x == ("__debug__" : Str)) = false ∧ (x == ("__classdict__" : Str)) = false := by
  unfold Inf.see at h
  obtain ⟨h1, h2⟩ := Bool.and_eq_true_iff.mp h
  unfold Inf.at_ at h1
  simp only [Bool.and_eq_true, Bool.not_eq_true', decide_eq_true_eq] at h1
  refine ⟨by rw [hN]; exact h1.1.1, ?_, h1.1.2, h1.2⟩
  simp only [Bool.or_eq_true, decide_eq_true_eq] at h2
  unfold Vis
  rw [hsc]
  rcases h2 with (h2 | h2) | h2
  · exact .inl h2
  · exact .inr (.inl h2)
  · exact .inr (.inr h2)
theorem ini_ok {X : Cx} {t : Inf} (hN : X.N = t.N) (hsc : X.env.scope = t.sc) {o : Str} (ho : t.see 0 o = true) : ∀ (ns : List Str) (k : Nat) (ss : List Stmt), iniB t o k ns ss = true → PSs X ss (tIn X.K k ns)
  | [], _, [], _ => pss_nil
  | [], _, _ :: _, h => by cases h
  | _ :: _, _, [], h => by cases h
  | f :: ns, k, s :: ss, h => by
    obtain ⟨h1, h2⟩ := Bool.and_eq_true_iff.mp h
    cases e : asOst s with
    | none => rw [e] at h1; cases h1
    | some z =>
      obtain ⟨o', f', x⟩ := z
      rw [e] at h1
      simp only [Bool.and_eq_true, decide_eq_true_eq] at h1
      obtain ⟨⟨rfl, rfl⟩, h3⟩ := h1
      obtain ⟨p1, p2, p3, p4, rfl⟩ := asOst_ok e
      obtain ⟨a1, a2, a3, a4⟩ := see_x hN hsc ho
      obtain ⟨b1, b2, b3, b4⟩ := see_x hN hsc h3
      exact pss_cons (ps_ost (pe_var a1 a2 a3 a4) (pe_var b1 b2 b3 b4)) (ini_ok hN hsc ho ns (k + 1) ss h2)
/-- an own __init__ that sets its fields in order -/
def iniC (N : List Str) (st : Stmt) (ns : List Str) : Bool :=
  scopeC N N (defScope st) && decide (N.length = ns.length + 1) && decide (ns.length ≤ 900) && decide ns.Nodup && (match N with | o :: _ => (⟨N, defScope st, none, true⟩ : Inf).see 0 o && iniB ⟨N, defScope st, none, true⟩ o 1 ns (defBody st) | [] => false)
section
variable {P : Program} {w : World} {K : PySem.W.Frag} {mg : Str → Option Value} {base : Heap}
theorem ini_fn {N ns : List Str} {st : Stmt} {qual : Str} {C fI : Addr} {fd : FuncData} (h : iniC N st ns = true) (hn : ns ≠ []) (F : L2.Fun K "__init__" qual st fI fd) (hno : ∀ f ∈ ns, PySem.W.findIn K (.ref C) f = some none) : FnOk P w K mg base (L2.CX P w) 1 fI fd N (SpI K C ns) := by
  unfold iniC at h
  simp only [Bool.and_eq_true, decide_eq_true_eq] at h
  obtain ⟨⟨⟨⟨h1, h2⟩, h3⟩, h4⟩, h5⟩ := h
  have sc := scope_by h1
  refine F.okX sc (fun vs H Q E ⟨a, ws, e, l, _⟩ => by rw [e, h2, List.length_cons, l]) fun cdv A outer s H vs Q E hr ⟨a, ws, e, l, T, ha, q⟩ => ?_
  cases N with
  | nil => cases h5
  | cons o N =>
    obtain ⟨h6, h7⟩ := Bool.and_eq_true_iff.mp h5
    refine ⟨_, ini_ok (t := ⟨o :: N, defScope st, none, true⟩) rfl rfl h6 ns 1 _ h7, ?_⟩
    subst e
    cases ns with
    | nil => exact absurd rfl hn
    | cons f ns =>
      cases ws with
      | nil => cases l
      | cons v ws =>
        have slot : ∀ i x, (V.ref a :: v :: ws)[i]? = some x → (L2.start (o :: N) (V.ref a :: v :: ws))[i]? = some (some x) := fun i x hx => by
          unfold L2.start
          rw [List.getElem?_append_left (by rw [List.length_map]; exact (List.getElem?_eq_some_iff.mp hx).1), List.getElem?_map, hx]
          rfl
        refine ⟨v, slot 1 v rfl, .ref a, slot 0 _ rfl, a, C, rfl, T, hno f List.mem_cons_self, .inl ⟨ha, fun dx hd hda => ?_⟩⟩
        refine tI_more T ns ws 2 _ _ _ [(f, v)] (fun g hg => hno g (List.mem_cons_of_mem _ hg)) (slot 0 _ rfl) (by simpa using l.symm) (fun i x hx => slot (2 + i) x (by rw [show 2 + i = i + 1 + 1 by omega]; exact hx)) upd_same (by rw [upd_ne hda]; exact upd_same) hda (by simp at h3 ⊢; omega) fun H' g1 g2 g3 => ?_
        refine q dx H' hd hda g1 (by rw [g2]; simp) fun b hb1 hb2 => ?_
        rw [g3 b hb1 hb2, upd_ne hb1, upd_ne hb2]
/-- what the written part says of an exception's class with an own __init__ -/
structure OwnExc (K : PySem.W.Frag) (mg : Str → Option Value) (c : Str) (ns N : List Str) (st : Stmt) (Ca : Addr) : Prop where
  T : OexC K Ca
  m : mg c = some (.ref Ca)
  no : ∀ f ∈ ns, PySem.W.findIn K (.ref Ca) f = some none
  ini : ∃ (fI : Addr) (fd : FuncData) (qual : Str), PySem.W.findIn K (.ref Ca) "__init__" = some (some (.ref fI)) ∧ PySem.W.typeIn K (.ref fI) = some (.type "function") ∧ L2.Fun K "__init__" qual st fI fd ∧ Binds K fd N []
theorem OwnExc.ab {c : Str} {ns N : List Str} {st : Stmt} {Ca : Addr} (O : OwnExc K mg c ns N st Ca) (h : iniC N st ns = true) (hn : ns ≠ []) (hdb : (c == ("__debug__" : Str)) = false) : ExcAb K mg c ns Ca := by
  intro C eK em calm hr es fa p pos hg hl hs ha hlen
  subst eK em
  obtain ⟨fI, fd, qual, i1, i2, F, b⟩ := O.ini
  have hnd : ns.Nodup := by
    unfold iniC at h
    simp only [Bool.and_eq_true, decide_eq_true_eq] at h
    exact h.1.2
  have h9 : ns.length ≤ 900 := by
    unfold iniC at h
    simp only [Bool.and_eq_true, decide_eq_true_eq] at h
    exact h.1.1.2
  cases es with
  | nil =>
    cases ns with
    | nil => exact absurd rfl hn
    | cons => cases hl
  | cons e es =>
    have hs2 : notStar e = true ∧ es.all notStar = true := by rw [List.all_cons] at hs; exact Bool.and_eq_true_iff.mp hs
    have mk := L2.pmk_oex (X := C.X) (CX := L2.CX C.X.prog C.X.w) (p := p) (pos := pos) (ds := []) (dvs := []) O.T i1 i2 (ini_fn (P := C.X.prog) (w := C.X.w) (mg := C.X.mg) (base := C.X.base) h hn F O.no) (k := 1) hr b .nil passL hg O.m ha hdb (notStar_ok hs2.1 _ _) (noStars hs2.2 _ _)
    intro pins s σ H Q I q
    refine mk pins s σ H Q I ?_
    obtain ⟨sx, ρ, own, μ, e1, p1, q⟩ := q
    refine ⟨sx, ρ, own, μ, e1, p1, q.monoE fun ds μ1 he q vs s1 o ev wd r ndo ow => ?_⟩
    obtain ⟨_, q⟩ := q vs s1 o ev wd r ndo ow
    have q := q hn
    have hl1 : vs.length = ns.length := r.len.symm.trans ((hlen _ _ _ _ he).trans hl)
    refine ⟨by omega, fun a ha => ?_⟩
    rw [List.append_nil]
    refine ⟨a, vs, rfl, hl1, O.T, upd_same, fun dx H' hd hda g1 g2 g3 => ⟨rfl, dx, _, g1, g2, ?_, ?_⟩⟩
    · rw [upd_ne hda] at hd; exact hd
    · rw [upd_ne hda] at hd
      have eH : upd (del H' a) dx (.xd ((ns.zip vs).reverse ++ [])) = upd s1.H dx (.xd ((ns.zip vs).reverse ++ [])) := by
        funext b
        by_cases h1 : b = dx
        · subst h1; rw [upd_same, upd_same]
        · rw [upd_ne h1, upd_ne h1]
          by_cases h2 : b = a
          · subst h2; rw [del_same, ha]
          · rw [del_ne h2, g3 b h2 h1, upd_ne h2]
      rw [eH]
      exact q dx _ hd fun i f v h1 h2 => lookup_rev hnd hl1.symm h1 h2
end
end Vf

/-! V18 -/
set_option autoImplicit false
set_option linter.all false
set_option Elab.async false
set_option maxHeartbeats 4000000
set_option maxRecDepth 10000
/-! V18: the whole of the end. -/
namespace Vf
open PySem PySem.Spec PyProof.Rows L2
section
variable {G : Sig} {L : Cls} {B : Bool} {T1 : List (Str × FI)} {p : Prog} {P : Program} {w : World} {K : PySem.W.Frag} {mg : Str → Option Value}
theorem law_end {k n : Nat} {fa : Addr} {fi : FI} {x : Str} (hR : ∀ base, Rows G L B T1 p P w K mg base) (hmg : mg "law" = some (.ref fa)) (hl : T1.lookup ("law" : Str) = some fi) (hb : BindsAt "law" fi.st fi.ps) (hps : fi.ps = [x]) (hnp : fi.fn.np = 1) (hp : p.prim.lookup ("law" : Str) = none)
    (hrun : ∀ ns : List Int, ns.length ≤ n → ∃ μ, run p (k + 1) "law" [.lst false (ns.map .int)] [] = .ok (.bl true) μ) :
    ∃ fd : FuncData, (∀ (s : Shared) (u : Value), BindsTo s fd ⟨[u], []⟩ [(x, u)]) ∧ ∀ base : Heap, K.In base → base.Ns mainGlobals mg → FnG P w K mg base (k + 2 + 1) fa fd [x] (spLaw K n) := by
  obtain ⟨fa', fd, h1, F, _⟩ := (hR default).at_ "law" fi hl
  have e : fa' = fa := Value.ref.inj (Option.some.inj (h1.symm.trans hmg))
  subst e
  refine ⟨fd, fun s u => ?_, fun base _ _ => ?_⟩
  · obtain ⟨oc, od, kV, doc, pm, an, cdv, ct, osl, rfl, lk, hcd⟩ := F.ex
    have z := hb kV doc pm an cdv ct [u] (by rw [hps]; rfl)
    rw [hps] at z
    exact BindsTo.of_eq z
  · have R := hR base
    have z := step_ok (R.ok "law" fi hl) F (R.need (R.all k))
    have e : run p (k + 1) "law" = runFn ⟨run p k, fun x => p.gl.lookup x, p.xi⟩ fi.fn := by
      funext ds
      show (match p.prim.lookup ("law" : Str) with
        | some g => g ⟨run p k, fun x => p.gl.lookup x, p.xi⟩ ds
        | none => match p.tab.lookup ("law" : Str) with
          | some fn => runFn ⟨run p k, fun x => p.gl.lookup x, p.xi⟩ fn ds
          | none => M.bad) = _
      rw [hp, R.tab, hl]
      rfl
    rw [← e, hnp, hps] at z
    exact law_ok z hrun
theorem bindsAt {f : Str} {st : Stmt} {ps : List Str} (h : BindsAt f st ps) : BindsAt f st ps := h
end
end Vf

/-! V19 -/
set_option autoImplicit false
set_option linter.all false
set_option Elab.async false
set_option maxHeartbeats 4000000
set_option maxRecDepth 10000
/-! V19: what the end wants of the written part. -/
namespace Vf
open PySem PySem.Spec PyProof.Rows L2
section
variable {K : PySem.W.Frag} {w : World} {mg : Str → Option Value} {h : Heap}
/-- is an exception of the class k one of c -/
def SubAt (K : PySem.W.Frag) (mg : Str → Option Value) (k c : Str) (b : Bool) : Prop := ∃ Ck Cc : Addr, mg k = some (.ref Ck) ∧ mg c = some (.ref Cc) ∧ PySem.W.exmOne K (.ref Ck) (.ref Cc) = some b ∧ PySem.W.kitOne K (.ref Ck) (.ref Cc) = some b ∧ ExcC K Ck
theorem mkSub {k c : Str} {b : Bool} {Ck Cc : Addr} (_ : K.In h) (hk : mg k = some (.ref Ck)) (hc : mg c = some (.ref Cc)) (E : ExcC K Ck) (h1 : PySem.W.subIn K (.ref Cc) (.type "BaseException") = some true) (h2' : PySem.W.hasDictIn K Cc = true) (h3 : PySem.W.typeIn K (.ref Cc) = some (.type "type")) (h4 : PySem.W.subIn K (.ref Ck) (.ref Cc) = some b)
    (h5 : ((Value.ref Ck == Value.ref Cc) && !b) = false) : SubAt K mg k c b := by
  have h2 : (PySem.W.clsIn K Cc).isSome = true := by
    obtain ⟨cd, hc, _⟩ := PySem.W.any_some h2'
    rw [hc]; rfl
  have hcl : PySem.W.kitCls K (.ref Ck) (.ref Cc) = some b := by
    show (if ((PySem.W.clsIn K Cc).isSome && PySem.W.typeIn K (.ref Cc) == some (.type "type")) = true then PySem.W.subIn K (.ref Ck) (.ref Cc) else none) = some b
    rw [h2, h3]
    exact h4
  refine ⟨Ck, Cc, hk, hc, ?_, ?_, E⟩
  · unfold PySem.W.exmOne
    rw [h1]
    exact hcl
  · unfold PySem.W.kitOne
    by_cases e : (Value.ref Ck == Value.ref Cc) = true
    · rw [if_pos e]
      rw [e] at h5
      cases b with
      | true => rfl
      | false => cases h5
    · rw [if_neg e]; exact hcl
def FldAt (K : PySem.W.Frag) (mg : Str → Option Value) (k : Str) (ns : List Str) : Prop := ∃ Ck : Addr, mg k = some (.ref Ck) ∧ XfC K Ck ∧ ∀ f ∈ ns, PySem.W.findIn K (.ref Ck) f = some none
theorem xo_of {L : Cls} {subs : List (Str × List (Str × Bool))} (hs : ∀ q ∈ subs, ∀ r ∈ q.2, SubAt K mg q.1 r.1 r.2) (hf : ∀ q ∈ L, FldAt K mg q.1 q.2) :
    XOk K mg (fun c => L.lookup c) ⟨fun c => L.lookup c, fun k c => (subs.lookup k).bind fun r => r.lookup c⟩ where
  sub := fun k c b e => by
    obtain ⟨r, e1, e2⟩ := Option.bind_eq_some_iff.mp e
    exact hs (k, r) (lookup_mem e1) (c, b) (lookup_mem e2)
  flds := fun k ns e => ⟨e, hf (k, ns) (lookup_mem e)⟩
def RsAt (K : PySem.W.Frag) (mg : Str → Option Value) (c : Str) (ns : List Str) : Prop := ns.Nodup ∧ ∃ Ca : Addr, mg c = some (.ref Ca) ∧ ExcAb K mg c ns Ca
def GlAt (K : PySem.W.Frag) (w : World) (mg : Str → Option Value) (x : Str) (d : D) : Prop := ∃ v u, mg x = some u ∧ RelV v u ∧ ∀ s, Rep K w s d v []
theorem glStr {x z : Str} {t : Tok} (e : mg x = some (.str z t)) : GlAt K w mg x (.str z) := ⟨.str z, _, e, ⟨t, rfl⟩, fun _ => ⟨rfl, rfl⟩⟩
theorem glInt {x : Str} {i : Int} {t : Tok} (e : mg x = some (.int i t)) : GlAt K w mg x (.int i) := ⟨.int i, _, e, ⟨t, rfl⟩, fun _ => ⟨rfl, rfl⟩⟩
/-- the rows, from lists of facts -/
theorem rows_of {G : Sig} {L : Cls} {T1 : List (Str × FI)} {tab : Table} {gl : List (Str × D)} {subs : List (Str × List (Str × Bool))} {P : Program} (KX : K.In h) (N : h.Ns mainGlobals mg)
    (htab : tab = T1.map fun q => (q.1, q.2.fn)) (hok : ∀ q ∈ T1, fiOk G L false q.2 = true) (hsig : G = T1.map fun q => (q.1, q.2.fn.np)) (hd : ∀ q ∈ T1, DefAt K q.1 q.2.st ∧ BindsAt q.1 q.2.st q.2.ps)
    (hblt : ∀ x ∈ bltN, mg x = none) (hgl : ∀ q ∈ gl, GlAt K w mg q.1 q.2) (hrs : ∀ q ∈ L, RsAt K mg q.1 q.2) (hs : ∀ q ∈ subs, ∀ r ∈ q.2, SubAt K mg q.1 r.1 r.2) (hf : ∀ q ∈ L, FldAt K mg q.1 q.2) (base : Heap) :
    Rows G L false T1 ⟨tab, [], gl, ⟨fun c => L.lookup c, fun k c => (subs.lookup k).bind fun r => r.lookup c⟩⟩ P w K mg base where
  tab := fun f => by
    subst htab
    show (T1.map fun q => (q.1, q.2.fn)).lookup f = (T1.lookup f).map FI.fn
    clear hok hd hsig
    induction T1 with
    | nil => rfl
    | cons q T1 ih =>
      obtain ⟨g, fi⟩ := q
      rw [List.map_cons, List.lookup_cons, List.lookup_cons]
      cases e : f == g with
      | true => rfl
      | false => exact ih
  ok := fun f fi e => hok (f, fi) (lookup_mem e)
  sig := fun f np e => by
    refine .inl ⟨rfl, ?_⟩
    subst hsig
    have key : ∀ {T : List (Str × FI)}, (T.map fun q => (q.1, q.2.fn.np)).lookup f = some np → ∃ fi, T.lookup f = some fi ∧ fi.fn.np = np := by
      intro T
      induction T with
      | nil => intro h; cases h
      | cons q T ih =>
        obtain ⟨g, fi⟩ := q
        intro h
        rw [List.map_cons, List.lookup_cons] at h
        rw [List.lookup_cons]
        cases e : f == g with
        | true => rw [e] at h; exact ⟨fi, rfl, Option.some.inj h⟩
        | false => rw [e] at h; exact ih h
    exact key e
  at_ := at_of KX N hd
  blt := hblt
  gls := fun x d e => hgl (x, d) (lookup_mem e)
  rs := fun c ns e => hrs (c, ns) (lookup_mem e)
  xo := xo_of hs hf
  bd := fun h => by cases h
  prim := fun f np g _ h => by cases h
theorem mkExcC {c : Str} {D : Addr} (_ : K.In h) (_ : mg c = some (.ref D)) (hg : PySem.W.findIn K (.ref D) "__getattribute__" = some (some (.builtin "BaseException.__getattribute__"))) (hk : PySem.W.findIn K (.ref D) "__getattr__" = some none) (hs : PySem.W.subIn K (.ref D) (.type "BaseException") = some true) (hd : PySem.W.hasDictIn K D = true)
    (ha : PySem.W.findIn K (.ref D) "__class__" = some (some (.builtin "object.__class__"))) (hn : PySem.W.specialIn K (.builtin "object.__class__") "__get__" = some (some (.builtin "getset_descriptor.__get__"))) (ht : PySem.W.takesIn K (.builtin "object.__class__") = some true) (hm : PySem.W.mroIn K D (.type "object") = some true) : ExcC K D := ⟨hg, hk, hs, hd, ha, hn, ht, hm⟩
theorem mkXfC {c : Str} {D : Addr} (_ : K.In h) (_ : mg c = some (.ref D)) (hg : PySem.W.findIn K (.ref D) "__getattribute__" = some (some (.builtin "BaseException.__getattribute__"))) (hk : PySem.W.findIn K (.ref D) "__getattr__" = some none) (hs : PySem.W.subIn K (.ref D) (.type "BaseException") = some true) (hd : PySem.W.hasDictIn K D = true) : XfC K D := ⟨hg, hk, hs, hd⟩
theorem mkNo2 {c f g : Str} {D : Addr} (_ : K.In h) (_ : mg c = some (.ref D)) (h1 : PySem.W.findIn K (.ref D) f = some none) (h2 : PySem.W.findIn K (.ref D) g = some none) : ∀ x ∈ [f, g], PySem.W.findIn K (.ref D) x = some none := List.forall_mem_cons.mpr ⟨h1, List.forall_mem_cons.mpr ⟨h2, fun _ z => by cases z⟩⟩
theorem mkInit {c : Str} {D fI : Addr} (_ : K.In h) (_ : mg c = some (.ref D)) (h : PySem.W.findIn K (.ref D) "__init__" = some (some (.ref fI))) : PySem.W.findIn K (.ref D) "__init__" = some (some (.ref fI)) := h
theorem mkOex {c : Str} {C : Addr} {nm q : Str} {N : Addr} {bs bm : List Value} {sn : List Str} {sub : List Value} {ab : Bool} {col : Option Bool} {dd : Option Addr} {k0 k1 k2 k3 k5 : Option Value} (_ : K.In h) (_ : mg c = some (.ref C))
    (l : K.lookup C = some (excClassObj nm q C N bs bm true sn sub ab col dd k0 k1 k2 k3 k5 "ValueError.__new__")) (r : PySem.HandSPX.refsVE bm = true) (sa : PySem.W.findIn K (.ref C) "__setattr__" = some (some (.builtin "object.__setattr__")))
    (exC : PySem.W.subIn K (.ref C) (.type "BaseException") = some true) (tyC : PySem.W.typeIn K (.ref C) = some (.type "type")) (kC : PySem.W.keepIn K (.ref C) = true) : OexC K C := ⟨⟨nm, q, N, bs, bm, sn, sub, ab, col, dd, k0, k1, k2, k3, k5, l, r⟩, sa, exC, tyC, kC⟩
def clsIni (s : Stmt) : Stmt := match s with
  | .ClassDef _ _ _ body _ _ _ _ _ _ _ => body.getD 0 (.Pass ⟨0, 0, 0, 0⟩)
  | s => s
theorem mkIni {Ca fI : Addr} {qual : Str} {st : Stmt} {N : List Str} {oc : Value} {od : Option Addr} {kV doc pm : Value} {an : Option Addr} {cdv ct : Value} {osl : Array (Option Value)}
    (i1 : PySem.W.findIn K (.ref Ca) "__init__" = some (some (.ref fI))) (i2 : PySem.W.typeIn K (.ref fI) = some (.type "function")) (l : K.lookup fI = some ⟨oc, od, .func (PySem.W.fnOf "__init__" qual (defArgs st) (defBody st) (defScope st) .none kV doc pm an cdv ct), osl⟩) (c : PySem.W.codeIn K cdv qual = true) (k : PySem.W.keepIn K (.ref fI) = true)
    (hb : ∀ (kV doc pm : Value) (an : Option Addr) (cdv ct : Value) (us : List Value), us.length = N.length → bindArgs (PySem.W.fnOf "__init__" qual (defArgs st) (defBody st) (defScope st) .none kV doc pm an cdv ct) ⟨us, []⟩ = pure (N.zip us)) :
    ∃ (fI : Addr) (fd : FuncData) (qual : Str), PySem.W.findIn K (.ref Ca) "__init__" = some (some (.ref fI)) ∧ PySem.W.typeIn K (.ref fI) = some (.type "function") ∧ L2.Fun K "__init__" qual st fI fd ∧ Binds K fd N [] := by
  have F := fun_mk l c k
  exact ⟨fI, _, qual, i1, i2, F, F.binds hb⟩
end
end Vf

/-! V20 -/
set_option autoImplicit false
set_option linter.all false
set_option Elab.async false
set_option maxHeartbeats 4000000
set_option maxRecDepth 10000
/-! V20: dicts of the module. -/
namespace Vf
open PySem PySem.Spec PyProof.Rows L2
def Ents (P : Params) : List DictEntry → List (Key × V) → Prop
  | [], [] => True
  | e :: r, kv :: q => (∃ (z : Str) (t : Tok), kv.1 = .inr z ∧ e.key = .str z t ∧ e.hash = PyData.keyHash P z ∧ RelV kv.2 e.val) ∧ Ents P r q
  | _, _ => False
theorem Ents.nil {P : Params} : Ents P [] [] := trivial
theorem Ents.cons {P : Params} {e : DictEntry} {es : List DictEntry} {z : Str} {t : Tok} {v : V} {q : List (Key × V)} (h1 : e.key = .str z t) (h2 : e.hash = PyData.keyHash P z) (h3 : RelV v e.val) (h : Ents P es q) : Ents P (e :: es) ((.inr z, v) :: q) := ⟨⟨z, t, rfl, h1, h2, h3⟩, h⟩
theorem Ents.lit {P : Params} : ∀ {es : List DictEntry} {kv : List (Key × V)}, Ents P es kv → PySem.W.KeysLit P es
  | [], _, _ => trivial
  | _ :: _, [], h => h.elim
  | e :: r, p :: q, h => by
    obtain ⟨⟨z, t, _, a, b, _⟩, h2⟩ := h
    exact ⟨⟨z, t, a, b⟩, Ents.lit h2⟩
theorem Ents.noRef {P : Params} : ∀ {es : List DictEntry} {kv : List (Key × V)}, Ents P es kv → es.any (·.refKey) = false
  | [], _, _ => rfl
  | _ :: _, [], h => h.elim
  | e :: r, p :: q, h => by
    obtain ⟨⟨z, t, _, a, b, _⟩, h2⟩ := h
    rw [List.any_cons, Ents.noRef h2, Bool.or_false]
    unfold DictEntry.refKey
    rw [a]
theorem Ents.find {P : Params} (z : Str) : ∀ {es : List DictEntry} {kv : List (Key × V)}, Ents P es kv → match valV kv (.inr z : Key) with
    | some v => ∃ e, es.find? (·.key.isStr z) = some e ∧ RelV v e.val
    | none => es.find? (·.key.isStr z) = none
  | [], [], _ => rfl
  | [], _ :: _, h => h.elim
  | _ :: _, [], h => h.elim
  | e :: r, (k, v) :: q, h => by
    obtain ⟨⟨y, t, a, b, c, d⟩, h2⟩ := h
    have ih := Ents.find z h2
    dsimp only at a d
    subst a
    have ek : e.key.isStr z = (y == z) := by rw [b]; rfl
    unfold valV at ih ⊢
    rw [List.find?_cons, List.find?_cons, ek]
    by_cases q1 : y = z
    · subst q1
      simp only [decide_true, beq_self_eq_true]
      exact ⟨e, rfl, d⟩
    · have e1 : (y == z) = false := by simpa using q1
      have e2 : decide ((.inr y : Key) = .inr z) = false := decide_eq_false fun w => q1 (Sum.inr.inj w)
      rw [e1]
      dsimp only
      rw [e2]
      exact ih
theorem glDict {K : PySem.W.Frag} {w : World} {mg : Str → Option Value} {x : Str} {a : Addr} {es : Array DictEntry} {n : Nat} {ks : List Key} {ds : List D} {vs : List V} (e : mg x = some (.ref a)) (hl : K.lookup a = some ⟨.type "dict", none, .dict es n, #[]⟩) (low : (a == sysModules) = false)
    (he : Ents w.params es.toList (ks.zip vs)) (l : ks.length = ds.length) (r : ∀ s, RepL K w s ds vs []) : GlAt K w mg x (.dct false ks ds) := by
  refine ⟨.ref a, _, e, rfl, fun s => ⟨a, vs, rfl, .inr ⟨es, n, ⟨hl, he.lit, low⟩, fun z => ?_⟩, rfl, l, r s⟩⟩
  have f := he.find z
  cases hv : valV (ks.zip vs) (.inr z : Key) with
  | none =>
    rw [hv] at f
    dsimp only at f ⊢
    unfold PySem.W.nsIn
    rw [hl]
    simp only [f, he.noRef]
    rfl
  | some v =>
    rw [hv] at f
    dsimp only at f ⊢
    obtain ⟨e', f, rv⟩ := f
    refine ⟨e'.val, ?_, rv⟩
    unfold PySem.W.nsIn
    rw [hl]
    simp only [f]
section
variable {K : PySem.W.Frag} {w : World} {mg : Str → Option Value} {h : Heap}
theorem glAll {gl : List (Str × D)} (_ : K.In h) (H : ∀ q ∈ gl, GlAt K w mg q.1 q.2) : ∀ q ∈ gl, GlAt K w mg q.1 q.2 := H
theorem subAll {subs : List (Str × List (Str × Bool))} (_ : K.In h) (H : ∀ q ∈ subs, ∀ r ∈ q.2, SubAt K mg q.1 r.1 r.2) : ∀ q ∈ subs, ∀ r ∈ q.2, SubAt K mg q.1 r.1 r.2 := H
theorem fldAll {L : Cls} (_ : K.In h) (H : ∀ q ∈ L, FldAt K mg q.1 q.2) : ∀ q ∈ L, FldAt K mg q.1 q.2 := H
theorem rsAll {L : Cls} (_ : K.In h) (H : ∀ q ∈ L, RsAt K mg q.1 q.2) : ∀ q ∈ L, RsAt K mg q.1 q.2 := H
end
end Vf

/-! V21 -/
set_option autoImplicit false
set_option linter.all false
set_option Elab.async false
set_option maxHeartbeats 4000000
set_option maxRecDepth 10000
/-! V21: rows with prims and with _law_bend. -/
namespace Vf
open PySem PySem.Spec PyProof.Rows L2
section
variable {K : PySem.W.Frag} {w : World} {mg : Str → Option Value} {h : Heap}
/-- the rows, with the rule of _law_bend where it is used -/
theorem rows_ofB {G : Sig} {L : Cls} {B : Bool} {pr : List (Str × (Cfg → List D → M D))} {T1 : List (Str × FI)} {tab : Table} {gl : List (Str × D)} {subs : List (Str × List (Str × Bool))} {P : Program} (KX : K.In h) (N : h.Ns mainGlobals mg)
    (htab : tab = T1.map fun q => (q.1, q.2.fn)) (hok : ∀ q ∈ T1, fiOk G L B q.2 = true) (hsig : G = T1.map fun q => (q.1, q.2.fn.np)) (hd : ∀ q ∈ T1, DefAt K q.1 q.2.st ∧ BindsAt q.1 q.2.st q.2.ps)
    (hblt : ∀ x ∈ bltN, mg x = none) (hgl : ∀ q ∈ gl, GlAt K w mg q.1 q.2) (hrs : ∀ q ∈ L, RsAt K mg q.1 q.2) (hs : ∀ q ∈ subs, ∀ r ∈ q.2, SubAt K mg q.1 r.1 r.2) (hf : ∀ q ∈ L, FldAt K mg q.1 q.2) (hpr : ∀ f np, G.lookup f = some np → pr.lookup f = none)
    (hbd : ∀ base : Heap, B = true → ∀ k (C : Ctx) (t : Inf), C.Φ = ⟨run ⟨tab, pr, gl, ⟨fun c => L.lookup c, fun k c => (subs.lookup k).bind fun r => r.lookup c⟩⟩ k, fun x => gl.lookup x, ⟨fun c => L.lookup c, fun k c => (subs.lookup k).bind fun r => r.lookup c⟩⟩ → C.X.prog = P → C.X.w = w → C.X.K = K → C.X.mg = mg → C.X.base = base → Room (k + 2) C.X.A → Fx G C t → ∀ (i : Nat) (x : Str) (p1 p2 p3 pos : Pos), t.see i x = true → t.gl "_law_bend" = true → OkS C (.Expr (.Call (.Name "_law_bend" p1) [.Name x p2] [] p3) pos) (exS C.Φ (.bend i))) (base : Heap) :
    Rows G L B T1 ⟨tab, pr, gl, ⟨fun c => L.lookup c, fun k c => (subs.lookup k).bind fun r => r.lookup c⟩⟩ P w K mg base where
  tab := fun f => by
    subst htab
    show (T1.map fun q => (q.1, q.2.fn)).lookup f = (T1.lookup f).map FI.fn
    clear hok hd hsig hbd
    induction T1 with
    | nil => rfl
    | cons q T1 ih =>
      obtain ⟨g, fi⟩ := q
      rw [List.map_cons, List.lookup_cons, List.lookup_cons]
      cases e : f == g with
      | true => rfl
      | false => exact ih
  ok := fun f fi e => hok (f, fi) (lookup_mem e)
  sig := fun f np e => by
    refine .inl ⟨hpr f np e, ?_⟩
    subst hsig
    have key : ∀ {T : List (Str × FI)}, (T.map fun q => (q.1, q.2.fn.np)).lookup f = some np → ∃ fi, T.lookup f = some fi ∧ fi.fn.np = np := by
      intro T
      induction T with
      | nil => intro h; cases h
      | cons q T ih =>
        obtain ⟨g, fi⟩ := q
        intro h
        rw [List.map_cons, List.lookup_cons] at h
        rw [List.lookup_cons]
        cases e : f == g with
        | true => rw [e] at h; exact ⟨fi, rfl, Option.some.inj h⟩
        | false => rw [e] at h; exact ih h
    exact key e
  at_ := at_of KX N hd
  blt := hblt
  gls := fun x d e => hgl (x, d) (lookup_mem e)
  rs := fun c ns e => hrs (c, ns) (lookup_mem e)
  xo := xo_of hs hf
  bd := fun hB k C t e0 e1 e2 e3 e4 e5 hr F => hbd base hB k C t e0 e1 e2 e3 e4 e5 hr F
  prim := fun f np g e h => by rw [hpr f np e] at h; cases h
theorem mkNo1 {c f : Str} {D : Addr} (_ : K.In h) (_ : mg c = some (.ref D)) (h1 : PySem.W.findIn K (.ref D) f = some none) : ∀ x ∈ [f], PySem.W.findIn K (.ref D) x = some none := List.forall_mem_cons.mpr ⟨h1, fun _ z => by cases z⟩
theorem mkNo3 {c f g e : Str} {D : Addr} (_ : K.In h) (_ : mg c = some (.ref D)) (h1 : PySem.W.findIn K (.ref D) f = some none) (h2 : PySem.W.findIn K (.ref D) g = some none) (h3 : PySem.W.findIn K (.ref D) e = some none) : ∀ x ∈ [f, g, e], PySem.W.findIn K (.ref D) x = some none := List.forall_mem_cons.mpr ⟨h1, List.forall_mem_cons.mpr ⟨h2, List.forall_mem_cons.mpr ⟨h3, fun _ z => by cases z⟩⟩⟩
end
end Vf

set_option maxRecDepth 100000
set_option autoImplicit false
namespace P85
open PySem Vf
def top (i : Nat) : Stmt := PySem.Challenge.pw_parcelways_k85_whole_rules_put_in_and_ou.main.body.getD i (.Pass ⟨0, 0, 0, 0⟩)
/-- all_parcels(fields); 0:fields 1:found 2:_ 3:n 4:parcel 5:w -/
def f_all_parcels : Fn := ⟨1, 6, [.set true (.nm 1) (.lst [(.tup [])]), .for_ (.tup [(.nm 2), (.nm 3)]) (.seq (.var 0)) [.set true (.nm 1) (.lc2 (.nm 4) (.seq (.var 1)) (.nm 5) (.rng1 (.var 3)) none (.bin .add (.var 4) (.tup [(.var 5)])))], .ret (.var 1)]⟩
def i_all_parcels : FI := ⟨top 6, [(Str.ofString "fields"), (Str.ofString "found"), (Str.ofString "_"), (Str.ofString "n"), (Str.ofString "parcel"), (Str.ofString "w")], [(Str.ofString "fields")], f_all_parcels⟩
/-- number_of_parcel(fields, parcel); 0:fields 1:parcel 2:number 3:_ 4:n 5:w -/
def f_number_of_parcel : Fn := ⟨2, 6, [.set true (.nm 2) (.int 0), .for_ (.tup [(.tup [(.nm 3), (.nm 4)]), (.nm 5)]) (.zip (.var 0) (.var 1)) [.set true (.nm 2) (.bin .add (.bin .mul (.var 2) (.var 4)) (.var 5))], .ret (.var 2)]⟩
def i_number_of_parcel : FI := ⟨top 7, [(Str.ofString "fields"), (Str.ofString "parcel"), (Str.ofString "number"), (Str.ofString "_"), (Str.ofString "n"), (Str.ofString "w")], [(Str.ofString "fields"), (Str.ofString "parcel")], f_number_of_parcel⟩
/-- with_worth(parcel, f, w); 0:parcel 1:f 2:w -/
def f_with_worth : Fn := ⟨3, 3, [.ret (.bin .add (.bin .add (.slc (.var 0) none (some (.var 1))) (.tup [(.var 2)])) (.slc (.var 0) (some (.bin .add (.var 1) (.int 1))) none))]⟩
def i_with_worth : FI := ⟨top 8, [(Str.ofString "parcel"), (Str.ofString "f"), (Str.ofString "w")], [(Str.ofString "parcel"), (Str.ofString "f"), (Str.ofString "w")], f_with_worth⟩
/-- with_worths(parcel, pairs); 0:parcel 1:pairs 2:found 3:f 4:w -/
def f_with_worths : Fn := ⟨2, 5, [.set true (.nm 2) (.var 0), .for_ (.tup [(.nm 3), (.nm 4)]) (.seq (.var 1)) [.set true (.nm 2) (.call (Str.ofString "with_worth") [(.var 2), (.var 3), (.var 4)])], .ret (.var 2)]⟩
def i_with_worths : FI := ⟨top 9, [(Str.ofString "parcel"), (Str.ofString "pairs"), (Str.ofString "found"), (Str.ofString "f"), (Str.ofString "w")], [(Str.ofString "parcel"), (Str.ofString "pairs")], f_with_worths⟩
/-- has_worths(parcel, pairs); 0:parcel 1:pairs 2:f 3:w -/
def f_has_worths : Fn := ⟨2, 4, [.ret (.blt .all (.lc (.tup [(.nm 2), (.nm 3)]) (.seq (.var 1)) none (.cmp .eq (.idx (.var 0) (.var 2)) (.var 3))))]⟩
def i_has_worths : FI := ⟨top 10, [(Str.ofString "parcel"), (Str.ofString "pairs"), (Str.ofString "f"), (Str.ofString "w")], [(Str.ofString "parcel"), (Str.ofString "pairs")], f_has_worths⟩
/-- is_whole(value); 0:value -/
def f_is_whole : Fn := ⟨1, 1, [.ret (.and (.isi (.var 0) .int) (.not (.isi (.var 0) .bool)))]⟩
def i_is_whole : FI := ⟨top 12, [(Str.ofString "value")], [(Str.ofString "value")], f_is_whole⟩
/-- is_between(value, least, most); 0:value 1:least 2:most -/
def f_is_between : Fn := ⟨3, 3, [.ret (.and (.call (Str.ofString "is_whole") [(.var 0)]) (.chain .le .le (.var 1) (.var 0) (.var 2)))]⟩
def i_is_between : FI := ⟨top 13, [(Str.ofString "value"), (Str.ofString "least"), (Str.ofString "most")], [(Str.ofString "value"), (Str.ofString "least"), (Str.ofString "most")], f_is_between⟩
/-- is_rising(numbers); 0:numbers 1:at -/
def f_is_rising : Fn := ⟨1, 2, [.ret (.blt .all (.lc (.nm 1) (.rng2 (.int 1) (.blt .len (.var 0))) none (.cmp .lt (.idx (.var 0) (.bin .sub (.var 1) (.int 1))) (.idx (.var 0) (.var 1)))))]⟩
def i_is_rising : FI := ⟨top 14, [(Str.ofString "numbers"), (Str.ofString "at")], [(Str.ofString "numbers")], f_is_rising⟩
/-- is_pairs(fields, value); 0:fields 1:value 2:pair 3:f 4:_ -/
def f_is_pairs : Fn := ⟨2, 5, [.ife (.not (.isi (.var 1) .list)) [.ret (.bl false)] [], .for_ (.nm 2) (.seq (.var 1)) [.ife (.or (.not (.isi (.var 2) .tuple)) (.or (.cmp .ne (.blt .len (.var 2)) (.int 2)) (.not (.call (Str.ofString "is_between") [(.idx (.var 2) (.int 0)), (.int 0), (.bin .sub (.blt .len (.var 0)) (.int 1))])))) [.ret (.bl false)] [], .ife (.not (.call (Str.ofString "is_between") [(.idx (.var 2) (.int 1)), (.int 0), (.bin .sub (.idx (.idx (.var 0) (.idx (.var 2) (.int 0))) (.int 1)) (.int 1))])) [.ret (.bl false)] []], .ret (.call (Str.ofString "is_rising") [(.lc (.tup [(.nm 3), (.nm 4)]) (.seq (.var 1)) none (.var 3))])]⟩
def i_is_pairs : FI := ⟨top 16, [(Str.ofString "fields"), (Str.ofString "value"), (Str.ofString "pair"), (Str.ofString "f"), (Str.ofString "_")], [(Str.ofString "fields"), (Str.ofString "value")], f_is_pairs⟩
/-- are_acts(fields, value); 0:fields 1:value 2:act -/
def f_are_acts : Fn := ⟨2, 3, [.ife (.or (.not (.isi (.var 1) .list)) (.not (.blt .all (.lc (.nm 2) (.seq (.var 1)) none (.call (Str.ofString "is_pairs") [(.var 0), (.var 2)]))))) [.ret (.bl false)] [], .ret (.call (Str.ofString "is_rising") [(.var 1)])]⟩
def i_are_acts : FI := ⟨top 17, [(Str.ofString "fields"), (Str.ofString "value"), (Str.ofString "act")], [(Str.ofString "fields"), (Str.ofString "value")], f_are_acts⟩
/-- acts_anew(acts); 0:acts 1:act -/
def f_acts_anew : Fn := ⟨1, 2, [.ret (.lc (.nm 1) (.seq (.var 0)) none (.blt .list (.var 1)))]⟩
def i_acts_anew : FI := ⟨top 18, [(Str.ofString "acts"), (Str.ofString "act")], [(Str.ofString "acts")], f_acts_anew⟩
/-- numbers_by_acts(fields, parcel, acts); 0:fields 1:parcel 2:acts 3:found 4:act -/
def f_numbers_by_acts : Fn := ⟨3, 5, [.set false (.nm 3) .dct0, .for_ (.nm 4) (.seq (.var 2)) [.put 3 (.call (Str.ofString "number_of_parcel") [(.var 0), (.call (Str.ofString "with_worths") [(.var 1), (.var 4)])]) (.bl true)], .ret (.blt .sorted (.brw 3))]⟩
def i_numbers_by_acts : FI := ⟨top 19, [(Str.ofString "fields"), (Str.ofString "parcel"), (Str.ofString "acts"), (Str.ofString "found"), (Str.ofString "act")], [(Str.ofString "fields"), (Str.ofString "parcel"), (Str.ofString "acts")], f_numbers_by_acts⟩
/-- is_rule(fields, value); 0:fields 1:value -/
def f_is_rule : Fn := ⟨2, 2, [.ife (.or (.not (.isi (.var 1) .tuple)) (.cmp .ne (.blt .len (.var 1)) (.int 2))) [.ret (.bl false)] [], .ret (.and (.call (Str.ofString "is_pairs") [(.var 0), (.idx (.var 1) (.int 0))]) (.call (Str.ofString "are_acts") [(.var 0), (.idx (.var 1) (.int 1))]))]⟩
def i_is_rule : FI := ⟨top 22, [(Str.ofString "fields"), (Str.ofString "value")], [(Str.ofString "fields"), (Str.ofString "value")], f_is_rule⟩
/-- rule_anew(rule); 0:rule 1:match 2:acts -/
def f_rule_anew : Fn := ⟨1, 3, [.set true (.tup [(.nm 1), (.nm 2)]) (.var 0), .ret (.tup [(.blt .list (.var 1)), (.call (Str.ofString "acts_anew") [(.var 2)])])]⟩
def i_rule_anew : FI := ⟨top 23, [(Str.ofString "rule"), (Str.ofString "match"), (Str.ofString "acts")], [(Str.ofString "rule")], f_rule_anew⟩
/-- rules_anew(rules); 0:rules 1:rule -/
def f_rules_anew : Fn := ⟨1, 2, [.ret (.lc (.nm 1) (.seq (.var 0)) none (.call (Str.ofString "rule_anew") [(.var 1)]))]⟩
def i_rules_anew : FI := ⟨top 24, [(Str.ofString "rules"), (Str.ofString "rule")], [(Str.ofString "rules")], f_rules_anew⟩
/-- rule_met(rules, parcel); 0:rules 1:parcel 2:k 3:match 4:_ -/
def f_rule_met : Fn := ⟨2, 5, [.for_ (.tup [(.nm 2), (.tup [(.nm 3), (.nm 4)])]) (.enum (.var 0)) [.ife (.call (Str.ofString "has_worths") [(.var 1), (.var 3)]) [.ret (.var 2)] []], .ret .non]⟩
def i_rule_met : FI := ⟨top 25, [(Str.ofString "rules"), (Str.ofString "parcel"), (Str.ofString "k"), (Str.ofString "match"), (Str.ofString "_")], [(Str.ofString "rules"), (Str.ofString "parcel")], f_rule_met⟩
/-- numbers_by_rules(fields, rules, parcel); 0:fields 1:rules 2:parcel 3:k -/
def f_numbers_by_rules : Fn := ⟨3, 4, [.set true (.nm 3) (.call (Str.ofString "rule_met") [(.var 1), (.var 2)]), .ife (.cmp .isN (.var 3) .non) [.ret (.lst [])] [], .ret (.call (Str.ofString "numbers_by_acts") [(.var 0), (.var 2), (.idx (.idx (.var 1) (.var 3)) (.int 1))])]⟩
def i_numbers_by_rules : FI := ⟨top 26, [(Str.ofString "fields"), (Str.ofString "rules"), (Str.ofString "parcel"), (Str.ofString "k")], [(Str.ofString "fields"), (Str.ofString "rules"), (Str.ofString "parcel")], f_numbers_by_rules⟩
/-- table_of_rules(fields, rules); 0:fields 1:rules 2:parcel -/
def f_table_of_rules : Fn := ⟨2, 3, [.ret (.lc (.nm 2) (.seq (.call (Str.ofString "all_parcels") [(.var 0)])) none (.call (Str.ofString "numbers_by_rules") [(.var 0), (.var 1), (.var 2)]))]⟩
def i_table_of_rules : FI := ⟨top 27, [(Str.ofString "fields"), (Str.ofString "rules"), (Str.ofString "parcel")], [(Str.ofString "fields"), (Str.ofString "rules")], f_table_of_rules⟩
/-- clash_told(fields, one, other); 0:fields 1:one 2:other 3:parcel -/
def f_clash_told : Fn := ⟨3, 4, [.for_ (.nm 3) (.seq (.call (Str.ofString "all_parcels") [(.var 0)])) [.ife (.cmp .ne (.call (Str.ofString "numbers_by_rules") [(.var 0), (.var 1), (.var 3)]) (.call (Str.ofString "numbers_by_rules") [(.var 0), (.var 2), (.var 3)])) [.ret (.tup [(.str (Str.ofString "parcel")), (.var 3), (.call (Str.ofString "rule_met") [(.var 1), (.var 3)]), (.call (Str.ofString "rule_met") [(.var 2), (.var 3)])])] []], .ret (.tup [(.str (Str.ofString "same"))])]⟩
def i_clash_told : FI := ⟨top 29, [(Str.ofString "fields"), (Str.ofString "one"), (Str.ofString "other"), (Str.ofString "parcel")], [(Str.ofString "fields"), (Str.ofString "one"), (Str.ofString "other")], f_clash_told⟩
/-- with_rule(fields, rules, k, rule); 0:fields 1:rules 2:k 3:rule -/
def f_with_rule : Fn := ⟨4, 4, [.ife (.not (.chain .le .le (.int 0) (.var 2) (.blt .len (.var 1)))) [.raise (Str.ofString "NoPlace") [(.var 2)]] [], .ife (.not (.call (Str.ofString "is_rule") [(.var 0), (.var 3)])) [.raise (Str.ofString "BadRule") [(.var 2)]] [], .ife (.cmp .ge (.blt .len (.var 1)) (.glob (Str.ofString "MOST_RULES"))) [.raise (Str.ofString "BadRule") [(.neg (.int 1))]] [], .ret (.addM (.addM (.call (Str.ofString "rules_anew") [(.slc (.var 1) none (some (.var 2)))]) (.lst [(.call (Str.ofString "rule_anew") [(.var 3)])])) (.call (Str.ofString "rules_anew") [(.slc (.var 1) (some (.var 2)) none)]))]⟩
def i_with_rule : FI := ⟨top 30, [(Str.ofString "fields"), (Str.ofString "rules"), (Str.ofString "k"), (Str.ofString "rule")], [(Str.ofString "fields"), (Str.ofString "rules"), (Str.ofString "k"), (Str.ofString "rule")], f_with_rule⟩
/-- without_rule(rules, k); 0:rules 1:k -/
def f_without_rule : Fn := ⟨2, 2, [.ife (.not (.chain .le .lt (.int 0) (.var 1) (.blt .len (.var 0)))) [.raise (Str.ofString "NoPlace") [(.var 1)]] [], .ret (.call (Str.ofString "rules_anew") [(.bin .add (.slc (.var 0) none (some (.var 1))) (.slc (.var 0) (some (.bin .add (.var 1) (.int 1))) none))])]⟩
def i_without_rule : FI := ⟨top 31, [(Str.ofString "rules"), (Str.ofString "k")], [(Str.ofString "rules"), (Str.ofString "k")], f_without_rule⟩
/-- exchanged_rules(rules, k); 0:rules 1:k -/
def f_exchanged_rules : Fn := ⟨2, 2, [.ife (.not (.chain .le .lt (.int 0) (.var 1) (.bin .sub (.blt .len (.var 0)) (.int 1)))) [.raise (Str.ofString "NoPlace") [(.var 1)]] [], .ret (.call (Str.ofString "rules_anew") [(.bin .add (.bin .add (.slc (.var 0) none (some (.var 1))) (.lst [(.idx (.var 0) (.bin .add (.var 1) (.int 1))), (.idx (.var 0) (.var 1))])) (.slc (.var 0) (some (.bin .add (.var 1) (.int 2))) none))])]⟩
def i_exchanged_rules : FI := ⟨top 32, [(Str.ofString "rules"), (Str.ofString "k")], [(Str.ofString "rules"), (Str.ofString "k")], f_exchanged_rules⟩
/-- may_exchange(fields, rules, k); 0:fields 1:rules 2:k -/
def f_may_exchange : Fn := ⟨3, 3, [.ret (.cmp .eq (.call (Str.ofString "table_of_rules") [(.var 0), (.call (Str.ofString "exchanged_rules") [(.var 1), (.var 2)])]) (.call (Str.ofString "table_of_rules") [(.var 0), (.var 1)]))]⟩
def i_may_exchange : FI := ⟨top 33, [(Str.ofString "fields"), (Str.ofString "rules"), (Str.ofString "k")], [(Str.ofString "fields"), (Str.ofString "rules"), (Str.ofString "k")], f_may_exchange⟩
/-- _law_feed(script); 0:script -/
def f__law_feed : Fn := ⟨1, 1, [.ret (.newRef [(.blt .list (.var 0)), (.int 0), (.int 0), (.int 1)])]⟩
def i__law_feed : FI := ⟨top 35, [(Str.ofString "script")], [(Str.ofString "script")], f__law_feed⟩
/-- _law_draw(feed, many); 0:feed 1:many 2:cell 3:told 4:mixed -/
def f__law_draw : Fn := ⟨2, 5, [.ife (.and (.cmp .eq (.idx (.var 0) (.int 2)) (.int 0)) (.cmp .lt (.idx (.var 0) (.int 1)) (.blt .len (.idx (.var 0) (.int 0))))) [.set true (.nm 2) (.blt .abs (.blt .int (.idx (.idx (.var 0) (.int 0)) (.idx (.var 0) (.int 1))))), .raug (.var 0) (.int 1) .add (.int 1), .ife (.cmp .ge (.var 2) (.bin .pow (.int 10) (.int 18))) [.rput (.var 0) (.int 2) (.var 2)] [.rput (.var 0) (.int 3) (.bin .mod (.blt .int (.bin .add (.bin .add (.bin .mul (.idx (.var 0) (.int 3)) (.int 48271)) (.bin .mul (.var 2) (.int 69621))) (.idx (.var 0) (.int 1)))) (.int 2147483647))]] [], .ife (.cmp .gt (.idx (.var 0) (.int 2)) (.int 0)) [.set true (.nm 3) (.bin .mod (.blt .int (.idx (.var 0) (.int 2))) (.var 1)), .rput (.var 0) (.int 2) (.bin .fdiv (.idx (.var 0) (.int 2)) (.var 1)), .ret (.var 3)] [], .rput (.var 0) (.int 3) (.bin .mod (.blt .int (.bin .add (.bin .mul (.idx (.var 0) (.int 3)) (.int 16807)) (.int 12345))) (.int 2147483647)), .set true (.nm 4) (.bin .mod (.blt .int (.bin .add (.bin .mul (.idx (.var 0) (.int 3)) (.idx (.var 0) (.int 3))) (.idx (.var 0) (.int 3)))) (.int 2147483629)), .ret (.bin .mod (.bin .fdiv (.var 4) (.int 11)) (.var 1))]⟩
def i__law_draw : FI := ⟨top 36, [(Str.ofString "feed"), (Str.ofString "many"), (Str.ofString "cell"), (Str.ofString "told"), (Str.ofString "mixed")], [(Str.ofString "feed"), (Str.ofString "many")], f__law_draw⟩
/-- _law_whole(value); 0:value -/
def f__law_whole : Fn := ⟨1, 1, [.ret (.and (.isi (.var 0) .int) (.not (.isi (.var 0) .bool)))]⟩
def i__law_whole : FI := ⟨top 37, [(Str.ofString "value")], [(Str.ofString "value")], f__law_whole⟩
/-- _law_are_pairs(fields, value); 0:fields 1:value 2:pair 3:k -/
def f__law_are_pairs : Fn := ⟨2, 4, [.ife (.not (.isi (.var 1) .list)) [.ret (.bl false)] [], .for_ (.nm 2) (.seq (.var 1)) [.ife (.or (.not (.isi (.var 2) .tuple)) (.or (.cmp .ne (.blt .len (.var 2)) (.int 2)) (.or (.not (.call (Str.ofString "_law_whole") [(.idx (.var 2) (.int 0))])) (.not (.call (Str.ofString "_law_whole") [(.idx (.var 2) (.int 1))]))))) [.ret (.bl false)] [], .ife (.or (.not (.chain .le .lt (.int 0) (.idx (.var 2) (.int 0)) (.blt .len (.var 0)))) (.not (.chain .le .lt (.int 0) (.idx (.var 2) (.int 1)) (.idx (.idx (.var 0) (.idx (.var 2) (.int 0))) (.int 1))))) [.ret (.bl false)] []], .ret (.cmp .eq (.blt .len (.lc (.nm 3) (.rng2 (.int 1) (.blt .len (.var 1))) (some (.cmp .ge (.idx (.idx (.var 1) (.bin .sub (.var 3) (.int 1))) (.int 0)) (.idx (.idx (.var 1) (.var 3)) (.int 0)))) (.var 3))) (.int 0))]⟩
def i__law_are_pairs : FI := ⟨top 38, [(Str.ofString "fields"), (Str.ofString "value"), (Str.ofString "pair"), (Str.ofString "k")], [(Str.ofString "fields"), (Str.ofString "value")], f__law_are_pairs⟩
/-- _law_are_acts(fields, value); 0:fields 1:value 2:act 3:k -/
def f__law_are_acts : Fn := ⟨2, 4, [.ife (.or (.not (.isi (.var 1) .list)) (.cmp .gt (.blt .len (.lc (.nm 2) (.seq (.var 1)) (some (.not (.call (Str.ofString "_law_are_pairs") [(.var 0), (.var 2)]))) (.var 2))) (.int 0))) [.ret (.bl false)] [], .ret (.cmp .eq (.blt .len (.lc (.nm 3) (.rng2 (.int 1) (.blt .len (.var 1))) (some (.cmp .ge (.idx (.var 1) (.bin .sub (.var 3) (.int 1))) (.idx (.var 1) (.var 3)))) (.var 3))) (.int 0))]⟩
def i__law_are_acts : FI := ⟨top 39, [(Str.ofString "fields"), (Str.ofString "value"), (Str.ofString "act"), (Str.ofString "k")], [(Str.ofString "fields"), (Str.ofString "value")], f__law_are_acts⟩
/-- _law_is_rule(fields, value); 0:fields 1:value -/
def f__law_is_rule : Fn := ⟨2, 2, [.ife (.or (.not (.isi (.var 1) .tuple)) (.cmp .ne (.blt .len (.var 1)) (.int 2))) [.ret (.bl false)] [], .ret (.and (.call (Str.ofString "_law_are_pairs") [(.var 0), (.idx (.var 1) (.int 0))]) (.call (Str.ofString "_law_are_acts") [(.var 0), (.idx (.var 1) (.int 1))]))]⟩
def i__law_is_rule : FI := ⟨top 40, [(Str.ofString "fields"), (Str.ofString "value")], [(Str.ofString "fields"), (Str.ofString "value")], f__law_is_rule⟩
/-- _law_copied(rules); 0:rules 1:act 2:match 3:acts -/
def f__law_copied : Fn := ⟨1, 4, [.ret (.lc (.tup [(.nm 2), (.nm 3)]) (.seq (.var 0)) none (.tup [(.blt .list (.var 2)), (.lc (.nm 1) (.seq (.var 3)) none (.blt .list (.var 1)))]))]⟩
def i__law_copied : FI := ⟨top 41, [(Str.ofString "rules"), (Str.ofString "act"), (Str.ofString "match"), (Str.ofString "acts")], [(Str.ofString "rules")], f__law_copied⟩
/-- _law_same(actual, due); 0:actual 1:due 2:k -/
def f__law_same : Fn := ⟨2, 3, [.ife (.or (.isi (.var 1) .list) (.isi (.var 1) .tuple)) [.ife (.or (.cmp .ne (.isi (.var 0) .list) (.isi (.var 1) .list)) (.cmp .ne (.isi (.var 0) .tuple) (.isi (.var 1) .tuple))) [.ret (.bl false)] [], .ret (.and (.cmp .eq (.blt .len (.var 0)) (.blt .len (.var 1))) (.blt .all (.lc (.nm 2) (.rng1 (.blt .len (.var 1))) none (.call (Str.ofString "_law_same") [(.idx (.var 0) (.var 2)), (.idx (.var 1) (.var 2))]))))] [], .ife (.or (.cmp .isN (.var 1) .non) (.isi (.var 1) .bool)) [.ret (.ife (.cmp .isN (.var 1) .non) (.cmp .isN (.var 0) .non) (.and (.isi (.var 0) .bool) (.cmp .eq (.var 0) (.var 1))))] [], .ife (.isi (.var 1) .str) [.ret (.and (.isi (.var 0) .str) (.cmp .eq (.var 0) (.var 1)))] [], .ret (.and (.isi (.var 0) .int) (.and (.not (.isi (.var 0) .bool)) (.cmp .eq (.var 0) (.var 1))))]⟩
def i__law_same : FI := ⟨top 42, [(Str.ofString "actual"), (Str.ofString "due"), (Str.ofString "k")], [(Str.ofString "actual"), (Str.ofString "due")], f__law_same⟩
/-- _law_acts(feed, fields, first); 0:feed 1:fields 2:first 3:found 4:k 5:act 6:f -/
def f__law_acts : Fn := ⟨3, 7, [.set false (.nm 3) (.lst []), .for_ (.nm 4) (.rng1 (.call (Str.ofString "_law_draw") [(.var 0), (.int 3)])) [.set false (.nm 5) (.lst []), .for_ (.nm 6) (.rng2 (.var 2) (.blt .len (.var 1))) [.ife (.cmp .eq (.call (Str.ofString "_law_draw") [(.var 0), (.int 2)]) (.int 0)) [.app 5 (.tup [(.var 6), (.call (Str.ofString "_law_draw") [(.var 0), (.idx (.idx (.var 1) (.var 6)) (.int 1))])])] []], .ife (.cmp .notIn (.brw 5) (.brw 3)) [.frz 5, .app 3 (.var 5)] []], .ret (.blt .sortd (.brw 3))]⟩
def i__law_acts : FI := ⟨top 43, [(Str.ofString "feed"), (Str.ofString "fields"), (Str.ofString "first"), (Str.ofString "found"), (Str.ofString "k"), (Str.ofString "act"), (Str.ofString "f")], [(Str.ofString "feed"), (Str.ofString "fields"), (Str.ofString "first")], f__law_acts⟩
/-- _law_rules(feed, fields, first, most); 0:feed 1:fields 2:first 3:most 4:found 5:k 6:match 7:f -/
def f__law_rules : Fn := ⟨4, 8, [.set false (.nm 4) (.lst []), .for_ (.nm 5) (.rng1 (.call (Str.ofString "_law_draw") [(.var 0), (.bin .add (.var 3) (.int 1))])) [.set false (.nm 6) (.lst []), .for_ (.nm 7) (.rng2 (.var 2) (.blt .len (.var 1))) [.ife (.cmp .eq (.call (Str.ofString "_law_draw") [(.var 0), (.int 2)]) (.int 0)) [.app 6 (.tup [(.var 7), (.call (Str.ofString "_law_draw") [(.var 0), (.idx (.idx (.var 1) (.var 7)) (.int 1))])])] []], .frz 6, .app 4 (.tup [(.var 6), (.call (Str.ofString "_law_acts") [(.var 0), (.var 1), (.var 2)])])], .retMv 4]⟩
def i__law_rules : FI := ⟨top 44, [(Str.ofString "feed"), (Str.ofString "fields"), (Str.ofString "first"), (Str.ofString "most"), (Str.ofString "found"), (Str.ofString "k"), (Str.ofString "match"), (Str.ofString "f")], [(Str.ofString "feed"), (Str.ofString "fields"), (Str.ofString "first"), (Str.ofString "most")], f__law_rules⟩
/-- _law_parcels(fields); 0:fields 1:found 2:name 3:n 4:longer 5:parcel 6:w -/
def f__law_parcels : Fn := ⟨1, 7, [.set true (.nm 1) (.lst [(.tup [])]), .for_ (.tup [(.nm 2), (.nm 3)]) (.seq (.var 0)) [.set true (.nm 4) (.lst []), .for_ (.nm 5) (.seq (.var 1)) [.set true (.nm 4) (.bin .add (.var 4) (.lc (.nm 6) (.rng1 (.var 3)) none (.bin .add (.var 5) (.tup [(.var 6)]))))], .set true (.nm 1) (.var 4)], .ret (.var 1)]⟩
def i__law_parcels : FI := ⟨top 45, [(Str.ofString "fields"), (Str.ofString "found"), (Str.ofString "name"), (Str.ofString "n"), (Str.ofString "longer"), (Str.ofString "parcel"), (Str.ofString "w")], [(Str.ofString "fields")], f__law_parcels⟩
/-- _law_number(fields, parcel); 0:fields 1:parcel 2:number 3:k -/
def f__law_number : Fn := ⟨2, 4, [.set true (.nm 2) (.int 0), .for_ (.nm 3) (.rng1 (.blt .len (.var 0))) [.set true (.nm 2) (.bin .add (.bin .mul (.var 2) (.idx (.idx (.var 0) (.var 3)) (.int 1))) (.idx (.var 1) (.var 3)))], .ret (.var 2)]⟩
def i__law_number : FI := ⟨top 46, [(Str.ofString "fields"), (Str.ofString "parcel"), (Str.ofString "number"), (Str.ofString "k")], [(Str.ofString "fields"), (Str.ofString "parcel")], f__law_number⟩
/-- _law_done(rules, parcel); 0:rules 1:parcel 2:match 3:acts 4:pair 5:found 6:act 7:other 8:f 9:w -/
def f__law_done : Fn := ⟨2, 10, [.for_ (.tup [(.nm 2), (.nm 3)]) (.seq (.var 0)) [.ife (.cmp .eq (.blt .len (.lc (.nm 4) (.seq (.var 2)) (some (.cmp .ne (.idx (.var 1) (.idx (.var 4) (.int 0))) (.idx (.var 4) (.int 1)))) (.var 4))) (.int 0)) [.set false (.nm 5) (.lst []), .for_ (.nm 6) (.seq (.var 3)) [.set false (.nm 7) (.blt .list (.var 1)), .for_ (.tup [(.nm 8), (.nm 9)]) (.seq (.var 6)) [.put 7 (.var 8) (.var 9)], .ife (.cmp .notIn (.blt .tuple (.brw 7)) (.brw 5)) [.app 5 (.blt .tuple (.brw 7))] []], .ret (.blt .sortd (.brw 5))] []], .ret (.lst [])]⟩
def i__law_done : FI := ⟨top 47, [(Str.ofString "rules"), (Str.ofString "parcel"), (Str.ofString "match"), (Str.ofString "acts"), (Str.ofString "pair"), (Str.ofString "found"), (Str.ofString "act"), (Str.ofString "other"), (Str.ofString "f"), (Str.ofString "w")], [(Str.ofString "rules"), (Str.ofString "parcel")], f__law_done⟩
/-- _law_rules_table(fields, rules); 0:fields 1:rules 2:found 3:parcel 4:other -/
def f__law_rules_table : Fn := ⟨2, 5, [.set false (.nm 2) (.lst []), .for_ (.nm 3) (.seq (.call (Str.ofString "_law_parcels") [(.var 0)])) [.app 2 (.lc (.nm 4) (.seq (.call (Str.ofString "_law_done") [(.var 1), (.var 3)])) none (.call (Str.ofString "_law_number") [(.var 0), (.var 4)]))], .retMv 2]⟩
def i__law_rules_table : FI := ⟨top 48, [(Str.ofString "fields"), (Str.ofString "rules"), (Str.ofString "found"), (Str.ofString "parcel"), (Str.ofString "other")], [(Str.ofString "fields"), (Str.ofString "rules")], f__law_rules_table⟩
/-- _law_name(k); 0:k -/
def f__law_name : Fn := ⟨1, 1, [.ret (.idx (.lst [(.str (Str.ofString "a")), (.str (Str.ofString "bo")), (.str (Str.ofString "cat")), (.str (Str.ofString "dust"))]) (.var 0))]⟩
def i__law_name : FI := ⟨top 49, [(Str.ofString "k")], [(Str.ofString "k")], f__law_name⟩
/-- _law_fields(feed, most); 0:feed 1:most 2:found 3:left 4:k 5:n -/
def f__law_fields : Fn := ⟨2, 6, [.set false (.nm 2) (.lst []), .set true (.nm 3) (.var 1), .for_ (.nm 4) (.rng1 (.bin .add (.int 1) (.call (Str.ofString "_law_draw") [(.var 0), (.int 3)]))) [.set true (.nm 5) (.bin .add (.int 2) (.call (Str.ofString "_law_draw") [(.var 0), (.int 3)])), .ife (.cmp .le (.var 5) (.var 3)) [.app 2 (.tup [(.call (Str.ofString "_law_name") [(.var 4)]), (.var 5)]), .set true (.nm 3) (.bin .fdiv (.var 3) (.var 5))] []], .retMv 2]⟩
def i__law_fields : FI := ⟨top 50, [(Str.ofString "feed"), (Str.ofString "most"), (Str.ofString "found"), (Str.ofString "left"), (Str.ofString "k"), (Str.ofString "n")], [(Str.ofString "feed"), (Str.ofString "most")], f__law_fields⟩
/-- _law_asked(fields, rules, k, rule, which); 0:fields 1:rules 2:k 3:rule 4:which 5:before 6:told 7:e 8:right -/
def f__law_asked : Fn := ⟨5, 9, [.set true (.nm 5) (.blt .repr (.lst [(.var 0), (.var 1), (.var 3)])), .try2 (Str.ofString "NoPlace") 7 [.set true (.nm 8) (.and (.isE 7 (Str.ofString "WayError")) (.and (.not (.isE 7 (Str.ofString "BadRule"))) (.not (.isE 7 (Str.ofString "NoUse"))))), .ret (.idx (.lst [(.tup [(.str (Str.ofString "error")), (.int 0)]), (.tup [(.str (Str.ofString "place")), (.fld 7 (Str.ofString "k"))])]) (.blt .int (.and (.var 8) (.cmp .eq (.blt .repr (.lst [(.var 0), (.var 1), (.var 3)])) (.var 5)))))] (Str.ofString "BadRule") 7 [.ret (.idx (.lst [(.tup [(.str (Str.ofString "error")), (.int 1)]), (.tup [(.str (Str.ofString "bad")), (.fld 7 (Str.ofString "k"))])]) (.blt .int (.and (.isE 7 (Str.ofString "WayError")) (.cmp .eq (.blt .repr (.lst [(.var 0), (.var 1), (.var 3)])) (.var 5)))))] (.ife (.cmp .eq (.var 4) (.int 0)) [.set false (.nm 6) (.call (Str.ofString "with_rule") [(.var 0), (.var 1), (.var 2), (.var 3)])] [.ife (.cmp .eq (.var 4) (.int 1)) [.set false (.nm 6) (.call (Str.ofString "without_rule") [(.var 1), (.var 2)])] [.set false (.nm 6) (.call (Str.ofString "exchanged_rules") [(.var 1), (.var 2)])]]), .retPk (Str.ofString "error") 2 (Str.ofString "rules") 6 (.blt .int (.cmp .eq (.blt .repr (.lst [(.var 0), (.var 1), (.var 3)])) (.var 5)))]⟩
def i__law_asked : FI := ⟨top 51, [(Str.ofString "fields"), (Str.ofString "rules"), (Str.ofString "k"), (Str.ofString "rule"), (Str.ofString "which"), (Str.ofString "before"), (Str.ofString "told"), (Str.ofString "e"), (Str.ofString "right")], [(Str.ofString "fields"), (Str.ofString "rules"), (Str.ofString "k"), (Str.ofString "rule"), (Str.ofString "which")], f__law_asked⟩
/-- _law_due(fields, rules, k, rule, which); 0:fields 1:rules 2:k 3:rule 4:which 5:n -/
def f__law_due : Fn := ⟨5, 6, [.set true (.nm 5) (.blt .len (.var 1)), .ife (.not (.chain .le .lt (.int 0) (.var 2) (.idx (.lst [(.bin .add (.var 5) (.int 1)), (.var 5), (.bin .sub (.var 5) (.int 1))]) (.var 4)))) [.ret (.tup [(.str (Str.ofString "place")), (.var 2)])] [], .ife (.and (.cmp .eq (.var 4) (.int 0)) (.not (.call (Str.ofString "_law_is_rule") [(.var 0), (.var 3)]))) [.ret (.tup [(.str (Str.ofString "bad")), (.var 2)])] [], .ife (.and (.cmp .eq (.var 4) (.int 0)) (.cmp .gt (.var 5) (.int 63))) [.ret (.tup [(.str (Str.ofString "bad")), (.neg (.int 1))])] [], .ife (.cmp .eq (.var 4) (.int 0)) [.ret (.tup [(.str (Str.ofString "rules")), (.bin .add (.bin .add (.slc (.var 1) none (some (.var 2))) (.lst [(.var 3)])) (.slc (.var 1) (some (.var 2)) none))])] [], .ife (.cmp .eq (.var 4) (.int 1)) [.ret (.tup [(.str (Str.ofString "rules")), (.bin .add (.slc (.var 1) none (some (.var 2))) (.slc (.var 1) (some (.bin .add (.var 2) (.int 1))) none))])] [], .ret (.tup [(.str (Str.ofString "rules")), (.bin .add (.bin .add (.slc (.var 1) none (some (.var 2))) (.lst [(.idx (.var 1) (.bin .add (.var 2) (.int 1))), (.idx (.var 1) (.var 2))])) (.slc (.var 1) (some (.bin .add (.var 2) (.int 2))) none))])]⟩
def i__law_due : FI := ⟨top 52, [(Str.ofString "fields"), (Str.ofString "rules"), (Str.ofString "k"), (Str.ofString "rule"), (Str.ofString "which"), (Str.ofString "n")], [(Str.ofString "fields"), (Str.ofString "rules"), (Str.ofString "k"), (Str.ofString "rule"), (Str.ofString "which")], f__law_due⟩
/-- _law_deed_right(fields, rules, k, rule, which); 0:fields 1:rules 2:k 3:rule 4:which 5:due 6:handed 7:again 8:told 9:match 10:acts -/
def f__law_deed_right : Fn := ⟨5, 11, [.set true (.nm 5) (.call (Str.ofString "_law_due") [(.var 0), (.var 1), (.var 2), (.var 3), (.var 4)]), .set true (.nm 6) (.call (Str.ofString "_law_copied") [(.var 1)]), .for_ (.nm 7) (.rng1 (.int 2)) [.set false (.nm 8) (.call (Str.ofString "_law_asked") [(.var 0), (.var 6), (.var 2), (.var 3), (.var 4)]), .ife (.or (.not (.callB (Str.ofString "_law_same") [(.brw 8), (.brw 5)])) (.cmp .ne (.var 6) (.var 1))) [.ret (.bl false)] [], .ife (.cmp .eq (.at0 8 0) (.str (Str.ofString "rules"))) [.ruin 8 1 9 10, .ife (.cmp .ne (.var 6) (.var 1)) [.ret (.bl false)] []] []], .ret (.bl true)]⟩
def i__law_deed_right : FI := ⟨top 53, [(Str.ofString "fields"), (Str.ofString "rules"), (Str.ofString "k"), (Str.ofString "rule"), (Str.ofString "which"), (Str.ofString "due"), (Str.ofString "handed"), (Str.ofString "again"), (Str.ofString "told"), (Str.ofString "match"), (Str.ofString "acts")], [(Str.ofString "fields"), (Str.ofString "rules"), (Str.ofString "k"), (Str.ofString "rule"), (Str.ofString "which")], f__law_deed_right⟩
/-- _law_bad_rules(fields); 0:fields 1:n 2:found -/
def f__law_bad_rules : Fn := ⟨1, 3, [.set true (.nm 1) (.blt .len (.var 0)), .set true (.nm 2) (.lst [(.tup [(.lst [(.tup [(.var 1), (.int 0)])]), (.lst [])]), (.tup [(.lst [(.tup [(.int 0), (.int 9)])]), (.lst [(.lst [])])]), (.tup [(.lst [(.tup [(.int 0), (.int 0)]), (.tup [(.int 0), (.int 1)])]), (.lst [])]), (.tup [(.lst []), (.lst [(.lst []), (.lst [])])]), (.tup [(.lst []), (.lst [(.lst [(.tup [(.int 0), (.int 0)]), (.tup [(.int 0), (.int 0)])])])])]), .ret (.bin .add (.var 2) (.lst [(.tup [(.lst []), (.lst [(.lst [(.tup [(.int 0), (.int 1)])]), (.lst [(.tup [(.int 0), (.int 0)])])])]), (.tup [(.lst []), (.lst [(.lst [(.tup [(.var 1), (.int 0)])])])]), (.tup [(.lst []), (.lst [(.lst [(.tup [(.int 0), (.neg (.int 1))])])])]), (.tup [(.lst [(.tup [(.int 0), (.neg (.int 1))])]), (.lst [])])]))]⟩
def i__law_bad_rules : FI := ⟨top 54, [(Str.ofString "fields"), (Str.ofString "n"), (Str.ofString "found")], [(Str.ofString "fields")], f__law_bad_rules⟩
/-- _law_right(feed, fields, rules); 0:feed 1:fields 2:rules 3:good 4:bad 5:k 6:exchanged 7:due -/
def f__law_right : Fn := ⟨3, 8, [.set true (.nm 3) (.idx (.bin .add (.call (Str.ofString "_law_rules") [(.var 0), (.var 1), (.int 0), (.int 1)]) (.lst [(.tup [(.lst []), (.lst [(.lst [])])])])) (.int 0)), .set true (.nm 4) (.call (Str.ofString "_law_bad_rules") [(.var 1)]), .for_ (.nm 5) (.rng2 (.neg (.int 2)) (.bin .add (.blt .len (.var 2)) (.int 3))) [.ife (.or (.not (.call (Str.ofString "_law_deed_right") [(.var 1), (.var 2), (.var 5), (.var 3), (.int 0)])) (.not (.call (Str.ofString "_law_deed_right") [(.var 1), (.var 2), (.var 5), .non, (.int 1)]))) [.ret (.bl false)] [], .ife (.not (.call (Str.ofString "_law_deed_right") [(.var 1), (.var 2), (.var 5), (.idx (.var 4) (.call (Str.ofString "_law_draw") [(.var 0), (.blt .len (.var 4))])), (.int 0)])) [.ret (.bl false)] [], .ife (.not (.call (Str.ofString "_law_deed_right") [(.var 1), (.var 2), (.var 5), .non, (.int 2)])) [.ret (.bl false)] []], .for_ (.nm 5) (.rng1 (.bin .sub (.blt .len (.var 2)) (.int 1))) [.set true (.nm 6) (.bin .add (.bin .add (.slc (.var 2) none (some (.var 5))) (.lst [(.idx (.var 2) (.bin .add (.var 5) (.int 1))), (.idx (.var 2) (.var 5))])) (.slc (.var 2) (some (.bin .add (.var 5) (.int 2))) none)), .set true (.nm 7) (.cmp .eq (.call (Str.ofString "_law_rules_table") [(.var 1), (.var 6)]) (.call (Str.ofString "_law_rules_table") [(.var 1), (.var 2)])), .ife (.not (.call (Str.ofString "_law_same") [(.call (Str.ofString "may_exchange") [(.var 1), (.var 2), (.var 5)]), (.var 7)])) [.ret (.bl false)] []], .ret (.and (.call (Str.ofString "_law_deed_right") [(.var 1), (.var 2), (.bin .pow (.int 10) (.int 20)), (.var 3), (.int 0)]) (.call (Str.ofString "_law_deed_right") [(.var 1), (.var 2), (.neg (.bin .pow (.int 10) (.int 20))), .non, (.int 1)]))]⟩
def i__law_right : FI := ⟨top 55, [(Str.ofString "feed"), (Str.ofString "fields"), (Str.ofString "rules"), (Str.ofString "good"), (Str.ofString "bad"), (Str.ofString "k"), (Str.ofString "exchanged"), (Str.ofString "due")], [(Str.ofString "feed"), (Str.ofString "fields"), (Str.ofString "rules")], f__law_right⟩
/-- _law_row_right(feed, fields, rules); 0:feed 1:fields 2:rules 3:here 4:step 5:which 6:rule 7:due 8:table 9:said -/
def f__law_row_right : Fn := ⟨3, 10, [.set true (.nm 3) (.call (Str.ofString "_law_copied") [(.var 2)]), .for_ (.nm 4) (.rng1 (.int 5)) [.set true (.nm 5) (.call (Str.ofString "_law_draw") [(.var 0), (.int 3)]), .set true (.nm 6) (.idx (.bin .add (.call (Str.ofString "_law_rules") [(.var 0), (.var 1), (.int 0), (.int 1)]) (.lst [(.tup [(.lst []), (.lst [])])])) (.int 0)), .set true (.nm 7) (.call (Str.ofString "_law_due") [(.var 1), (.var 3), (.call (Str.ofString "_law_draw") [(.var 0), (.bin .add (.blt .len (.var 3)) (.int 1))]), (.var 6), (.var 5)]), .ife (.cmp .eq (.idx (.var 7) (.int 0)) (.str (Str.ofString "rules"))) [.set true (.nm 3) (.idx (.var 7) (.int 1))] [], .set true (.nm 8) (.call (Str.ofString "_law_rules_table") [(.var 1), (.var 3)]), .ife (.not (.call (Str.ofString "_law_same") [(.call (Str.ofString "table_of_rules") [(.var 1), (.var 3)]), (.var 8)])) [.ret (.bl false)] [], .set true (.nm 9) (.call (Str.ofString "clash_told") [(.var 1), (.var 2), (.var 3)]), .ife (.cmp .ne (.cmp .eq (.var 9) (.tup [(.str (Str.ofString "same"))])) (.cmp .eq (.var 8) (.call (Str.ofString "_law_rules_table") [(.var 1), (.var 2)]))) [.ret (.bl false)] [], .ife (.and (.cmp .eq (.blt .len (.var 9)) (.int 4)) (.cmp .eq (.call (Str.ofString "_law_done") [(.var 2), (.idx (.var 9) (.int 1))]) (.call (Str.ofString "_law_done") [(.var 3), (.idx (.var 9) (.int 1))]))) [.ret (.bl false)] []], .ret (.bl true)]⟩
def i__law_row_right : FI := ⟨top 56, [(Str.ofString "feed"), (Str.ofString "fields"), (Str.ofString "rules"), (Str.ofString "here"), (Str.ofString "step"), (Str.ofString "which"), (Str.ofString "rule"), (Str.ofString "due"), (Str.ofString "table"), (Str.ofString "said")], [(Str.ofString "feed"), (Str.ofString "fields"), (Str.ofString "rules")], f__law_row_right⟩
/-- law(script); 0:script 1:feed 2:turn 3:fields 4:rules 5:many 6:k 7:rule 8:told -/
def f_law : Fn := ⟨1, 9, [.set true (.nm 1) (.call (Str.ofString "_law_feed") [(.var 0)]), .for_ (.nm 2) (.rng1 (.int 2)) [.set true (.nm 3) (.call (Str.ofString "_law_fields") [(.var 1), (.int 12)]), .set true (.nm 4) (.call (Str.ofString "_law_rules") [(.var 1), (.var 3), (.int 0), (.int 5)]), .ife (.or (.not (.call (Str.ofString "_law_right") [(.var 1), (.var 3), (.var 4)])) (.not (.call (Str.ofString "_law_row_right") [(.var 1), (.var 3), (.var 4)]))) [.ret (.bl false)] []], .set true (.nm 5) (.bin .mul (.lst [(.tup [(.lst [(.tup [(.int 0), (.int 0)])]), (.lst [(.lst [])])])]) (.int 63)), .for_ (.nm 4) (.seq (.lst [(.var 5), (.bin .add (.var 5) (.slc (.var 5) none (some (.int 1))))])) [.for_ (.nm 6) (.seq (.lst [(.int 0), (.int 63), (.int 64), (.int 65)])) [.for_ (.nm 7) (.seq (.lst [(.tup [(.lst []), (.lst [])]), (.tup [(.lst [(.tup [(.int 0), (.int 9)])]), (.lst [])])])) [.ife (.not (.call (Str.ofString "_law_deed_right") [(.var 3), (.var 4), (.var 6), (.var 7), (.int 0)])) [.ret (.bl false)] []]]], .set true (.nm 3) (.lst [(.tup [(.str (Str.ofString "a")), (.int 2)]), (.tup [(.str (Str.ofString "bo")), (.int 2)])]), .set true (.nm 4) (.lst [(.tup [(.lst [(.tup [(.int 0), (.int 0)])]), (.lst [(.lst [(.tup [(.int 1), (.int 1)])])])]), (.tup [(.lst [(.tup [(.int 0), (.int 1)])]), (.lst [])]), (.tup [(.lst []), (.lst [(.lst [])])])]), .set false (.nm 8) (.lst [(.call (Str.ofString "may_exchange") [(.var 3), (.var 4), (.int 0)]), (.call (Str.ofString "may_exchange") [(.var 3), (.var 4), (.int 1)])]), .app 8 (.call (Str.ofString "may_exchange") [(.var 3), (.bin .add (.lst [(.tup [(.lst []), (.lst [(.lst [])])])]) (.var 4)), (.int 2)]), .frz 8, .ret (.and (.call (Str.ofString "_law_same") [(.var 8), (.lst [(.bl true), (.bl false), (.bl true)])]) (.call (Str.ofString "_law_right") [(.var 1), (.var 3), (.var 4)]))]⟩
def i_law : FI := ⟨top 57, [(Str.ofString "script"), (Str.ofString "feed"), (Str.ofString "turn"), (Str.ofString "fields"), (Str.ofString "rules"), (Str.ofString "many"), (Str.ofString "k"), (Str.ofString "rule"), (Str.ofString "told")], [(Str.ofString "script")], f_law⟩
def T1 : List (Str × FI) := [((Str.ofString "all_parcels"), i_all_parcels), ((Str.ofString "number_of_parcel"), i_number_of_parcel), ((Str.ofString "with_worth"), i_with_worth), ((Str.ofString "with_worths"), i_with_worths), ((Str.ofString "has_worths"), i_has_worths), ((Str.ofString "is_whole"), i_is_whole), ((Str.ofString "is_between"), i_is_between), ((Str.ofString "is_rising"), i_is_rising), ((Str.ofString "is_pairs"), i_is_pairs), ((Str.ofString "are_acts"), i_are_acts), ((Str.ofString "acts_anew"), i_acts_anew), ((Str.ofString "numbers_by_acts"), i_numbers_by_acts), ((Str.ofString "is_rule"), i_is_rule), ((Str.ofString "rule_anew"), i_rule_anew), ((Str.ofString "rules_anew"), i_rules_anew), ((Str.ofString "rule_met"), i_rule_met), ((Str.ofString "numbers_by_rules"), i_numbers_by_rules), ((Str.ofString "table_of_rules"), i_table_of_rules), ((Str.ofString "clash_told"), i_clash_told), ((Str.ofString "with_rule"), i_with_rule), ((Str.ofString "without_rule"), i_without_rule), ((Str.ofString "exchanged_rules"), i_exchanged_rules), ((Str.ofString "may_exchange"), i_may_exchange), ((Str.ofString "_law_feed"), i__law_feed), ((Str.ofString "_law_draw"), i__law_draw), ((Str.ofString "_law_whole"), i__law_whole), ((Str.ofString "_law_are_pairs"), i__law_are_pairs), ((Str.ofString "_law_are_acts"), i__law_are_acts), ((Str.ofString "_law_is_rule"), i__law_is_rule), ((Str.ofString "_law_copied"), i__law_copied), ((Str.ofString "_law_same"), i__law_same), ((Str.ofString "_law_acts"), i__law_acts), ((Str.ofString "_law_rules"), i__law_rules), ((Str.ofString "_law_parcels"), i__law_parcels), ((Str.ofString "_law_number"), i__law_number), ((Str.ofString "_law_done"), i__law_done), ((Str.ofString "_law_rules_table"), i__law_rules_table), ((Str.ofString "_law_name"), i__law_name), ((Str.ofString "_law_fields"), i__law_fields), ((Str.ofString "_law_asked"), i__law_asked), ((Str.ofString "_law_due"), i__law_due), ((Str.ofString "_law_deed_right"), i__law_deed_right), ((Str.ofString "_law_bad_rules"), i__law_bad_rules), ((Str.ofString "_law_right"), i__law_right), ((Str.ofString "_law_row_right"), i__law_row_right), ((Str.ofString "law"), i_law)]
def tab : Table := [((Str.ofString "all_parcels"), f_all_parcels), ((Str.ofString "number_of_parcel"), f_number_of_parcel), ((Str.ofString "with_worth"), f_with_worth), ((Str.ofString "with_worths"), f_with_worths), ((Str.ofString "has_worths"), f_has_worths), ((Str.ofString "is_whole"), f_is_whole), ((Str.ofString "is_between"), f_is_between), ((Str.ofString "is_rising"), f_is_rising), ((Str.ofString "is_pairs"), f_is_pairs), ((Str.ofString "are_acts"), f_are_acts), ((Str.ofString "acts_anew"), f_acts_anew), ((Str.ofString "numbers_by_acts"), f_numbers_by_acts), ((Str.ofString "is_rule"), f_is_rule), ((Str.ofString "rule_anew"), f_rule_anew), ((Str.ofString "rules_anew"), f_rules_anew), ((Str.ofString "rule_met"), f_rule_met), ((Str.ofString "numbers_by_rules"), f_numbers_by_rules), ((Str.ofString "table_of_rules"), f_table_of_rules), ((Str.ofString "clash_told"), f_clash_told), ((Str.ofString "with_rule"), f_with_rule), ((Str.ofString "without_rule"), f_without_rule), ((Str.ofString "exchanged_rules"), f_exchanged_rules), ((Str.ofString "may_exchange"), f_may_exchange), ((Str.ofString "_law_feed"), f__law_feed), ((Str.ofString "_law_draw"), f__law_draw), ((Str.ofString "_law_whole"), f__law_whole), ((Str.ofString "_law_are_pairs"), f__law_are_pairs), ((Str.ofString "_law_are_acts"), f__law_are_acts), ((Str.ofString "_law_is_rule"), f__law_is_rule), ((Str.ofString "_law_copied"), f__law_copied), ((Str.ofString "_law_same"), f__law_same), ((Str.ofString "_law_acts"), f__law_acts), ((Str.ofString "_law_rules"), f__law_rules), ((Str.ofString "_law_parcels"), f__law_parcels), ((Str.ofString "_law_number"), f__law_number), ((Str.ofString "_law_done"), f__law_done), ((Str.ofString "_law_rules_table"), f__law_rules_table), ((Str.ofString "_law_name"), f__law_name), ((Str.ofString "_law_fields"), f__law_fields), ((Str.ofString "_law_asked"), f__law_asked), ((Str.ofString "_law_due"), f__law_due), ((Str.ofString "_law_deed_right"), f__law_deed_right), ((Str.ofString "_law_bad_rules"), f__law_bad_rules), ((Str.ofString "_law_right"), f__law_right), ((Str.ofString "_law_row_right"), f__law_row_right), ((Str.ofString "law"), f_law)]
def sig : Sig := [((Str.ofString "all_parcels"), 1), ((Str.ofString "number_of_parcel"), 2), ((Str.ofString "with_worth"), 3), ((Str.ofString "with_worths"), 2), ((Str.ofString "has_worths"), 2), ((Str.ofString "is_whole"), 1), ((Str.ofString "is_between"), 3), ((Str.ofString "is_rising"), 1), ((Str.ofString "is_pairs"), 2), ((Str.ofString "are_acts"), 2), ((Str.ofString "acts_anew"), 1), ((Str.ofString "numbers_by_acts"), 3), ((Str.ofString "is_rule"), 2), ((Str.ofString "rule_anew"), 1), ((Str.ofString "rules_anew"), 1), ((Str.ofString "rule_met"), 2), ((Str.ofString "numbers_by_rules"), 3), ((Str.ofString "table_of_rules"), 2), ((Str.ofString "clash_told"), 3), ((Str.ofString "with_rule"), 4), ((Str.ofString "without_rule"), 2), ((Str.ofString "exchanged_rules"), 2), ((Str.ofString "may_exchange"), 3), ((Str.ofString "_law_feed"), 1), ((Str.ofString "_law_draw"), 2), ((Str.ofString "_law_whole"), 1), ((Str.ofString "_law_are_pairs"), 2), ((Str.ofString "_law_are_acts"), 2), ((Str.ofString "_law_is_rule"), 2), ((Str.ofString "_law_copied"), 1), ((Str.ofString "_law_same"), 2), ((Str.ofString "_law_acts"), 3), ((Str.ofString "_law_rules"), 4), ((Str.ofString "_law_parcels"), 1), ((Str.ofString "_law_number"), 2), ((Str.ofString "_law_done"), 2), ((Str.ofString "_law_rules_table"), 2), ((Str.ofString "_law_name"), 1), ((Str.ofString "_law_fields"), 2), ((Str.ofString "_law_asked"), 5), ((Str.ofString "_law_due"), 5), ((Str.ofString "_law_deed_right"), 5), ((Str.ofString "_law_bad_rules"), 1), ((Str.ofString "_law_right"), 3), ((Str.ofString "_law_row_right"), 3), ((Str.ofString "law"), 1)]
def cls : Cls := [((Str.ofString "NoPlace"), [(Str.ofString "k")]), ((Str.ofString "BadRule"), [(Str.ofString "k")])]
def subs : List (Str × List (Str × Bool)) := [((Str.ofString "NoPlace"), [((Str.ofString "BadRule"), false), ((Str.ofString "NoPlace"), true), ((Str.ofString "NoUse"), false), ((Str.ofString "WayError"), true)]), ((Str.ofString "BadRule"), [((Str.ofString "BadRule"), true), ((Str.ofString "NoPlace"), false), ((Str.ofString "NoUse"), false), ((Str.ofString "WayError"), true)])]
def xi : XI := ⟨fun c => cls.lookup c, fun k c => (subs.lookup k).bind fun r => r.lookup c⟩
def gls : List (Str × D) := [((Str.ofString "MOST_RULES"), .int 64)]
theorem ok_all_parcels : fiOk sig cls false i_all_parcels = true := by decide +kernel
theorem ok_number_of_parcel : fiOk sig cls false i_number_of_parcel = true := by decide +kernel
theorem ok_with_worth : fiOk sig cls false i_with_worth = true := by decide +kernel
theorem ok_with_worths : fiOk sig cls false i_with_worths = true := by decide +kernel
theorem ok_has_worths : fiOk sig cls false i_has_worths = true := by decide +kernel
theorem ok_is_whole : fiOk sig cls false i_is_whole = true := by decide +kernel
theorem ok_is_between : fiOk sig cls false i_is_between = true := by decide +kernel
theorem ok_is_rising : fiOk sig cls false i_is_rising = true := by decide +kernel
theorem ok_is_pairs : fiOk sig cls false i_is_pairs = true := by decide +kernel
theorem ok_are_acts : fiOk sig cls false i_are_acts = true := by decide +kernel
theorem ok_acts_anew : fiOk sig cls false i_acts_anew = true := by decide +kernel
theorem ok_numbers_by_acts : fiOk sig cls false i_numbers_by_acts = true := by decide +kernel
theorem ok_is_rule : fiOk sig cls false i_is_rule = true := by decide +kernel
theorem ok_rule_anew : fiOk sig cls false i_rule_anew = true := by decide +kernel
theorem ok_rules_anew : fiOk sig cls false i_rules_anew = true := by decide +kernel
theorem ok_rule_met : fiOk sig cls false i_rule_met = true := by decide +kernel
theorem ok_numbers_by_rules : fiOk sig cls false i_numbers_by_rules = true := by decide +kernel
theorem ok_table_of_rules : fiOk sig cls false i_table_of_rules = true := by decide +kernel
theorem ok_clash_told : fiOk sig cls false i_clash_told = true := by decide +kernel
theorem ok_with_rule : fiOk sig cls false i_with_rule = true := by decide +kernel
theorem ok_without_rule : fiOk sig cls false i_without_rule = true := by decide +kernel
theorem ok_exchanged_rules : fiOk sig cls false i_exchanged_rules = true := by decide +kernel
theorem ok_may_exchange : fiOk sig cls false i_may_exchange = true := by decide +kernel
theorem ok__law_feed : fiOk sig cls false i__law_feed = true := by decide +kernel
theorem ok__law_draw : fiOk sig cls false i__law_draw = true := by decide +kernel
theorem ok__law_whole : fiOk sig cls false i__law_whole = true := by decide +kernel
theorem ok__law_are_pairs : fiOk sig cls false i__law_are_pairs = true := by decide +kernel
theorem ok__law_are_acts : fiOk sig cls false i__law_are_acts = true := by decide +kernel
theorem ok__law_is_rule : fiOk sig cls false i__law_is_rule = true := by decide +kernel
theorem ok__law_copied : fiOk sig cls false i__law_copied = true := by decide +kernel
theorem ok__law_same : fiOk sig cls false i__law_same = true := by decide +kernel
theorem ok__law_acts : fiOk sig cls false i__law_acts = true := by decide +kernel
theorem ok__law_rules : fiOk sig cls false i__law_rules = true := by decide +kernel
theorem ok__law_parcels : fiOk sig cls false i__law_parcels = true := by decide +kernel
theorem ok__law_number : fiOk sig cls false i__law_number = true := by decide +kernel
theorem ok__law_done : fiOk sig cls false i__law_done = true := by decide +kernel
theorem ok__law_rules_table : fiOk sig cls false i__law_rules_table = true := by decide +kernel
theorem ok__law_name : fiOk sig cls false i__law_name = true := by decide +kernel
theorem ok__law_fields : fiOk sig cls false i__law_fields = true := by decide +kernel
theorem ok__law_asked : fiOk sig cls false i__law_asked = true := by decide +kernel
theorem ok__law_due : fiOk sig cls false i__law_due = true := by decide +kernel
theorem ok__law_deed_right : fiOk sig cls false i__law_deed_right = true := by decide +kernel
theorem ok__law_bad_rules : fiOk sig cls false i__law_bad_rules = true := by decide +kernel
theorem ok__law_right : fiOk sig cls false i__law_right = true := by decide +kernel
theorem ok__law_row_right : fiOk sig cls false i__law_row_right = true := by decide +kernel
theorem ok_law : fiOk sig cls false i_law = true := by decide +kernel
end P85

set_option Elab.async false
set_option maxRecDepth 100000
namespace P85
open PySem Vf
theorem b_all_parcels : BindsAt (Str.ofString "all_parcels") i_all_parcels.st i_all_parcels.ps := fun _ _ _ _ _ _ us hl => match us, hl with | [_], _ => rfl
theorem b_number_of_parcel : BindsAt (Str.ofString "number_of_parcel") i_number_of_parcel.st i_number_of_parcel.ps := fun _ _ _ _ _ _ us hl => match us, hl with | [_, _], _ => rfl
theorem b_with_worth : BindsAt (Str.ofString "with_worth") i_with_worth.st i_with_worth.ps := fun _ _ _ _ _ _ us hl => match us, hl with | [_, _, _], _ => rfl
theorem b_with_worths : BindsAt (Str.ofString "with_worths") i_with_worths.st i_with_worths.ps := fun _ _ _ _ _ _ us hl => match us, hl with | [_, _], _ => rfl
theorem b_has_worths : BindsAt (Str.ofString "has_worths") i_has_worths.st i_has_worths.ps := fun _ _ _ _ _ _ us hl => match us, hl with | [_, _], _ => rfl
theorem b_is_whole : BindsAt (Str.ofString "is_whole") i_is_whole.st i_is_whole.ps := fun _ _ _ _ _ _ us hl => match us, hl with | [_], _ => rfl
theorem b_is_between : BindsAt (Str.ofString "is_between") i_is_between.st i_is_between.ps := fun _ _ _ _ _ _ us hl => match us, hl with | [_, _, _], _ => rfl
theorem b_is_rising : BindsAt (Str.ofString "is_rising") i_is_rising.st i_is_rising.ps := fun _ _ _ _ _ _ us hl => match us, hl with | [_], _ => rfl
theorem b_is_pairs : BindsAt (Str.ofString "is_pairs") i_is_pairs.st i_is_pairs.ps := fun _ _ _ _ _ _ us hl => match us, hl with | [_, _], _ => rfl
theorem b_are_acts : BindsAt (Str.ofString "are_acts") i_are_acts.st i_are_acts.ps := fun _ _ _ _ _ _ us hl => match us, hl with | [_, _], _ => rfl
theorem b_acts_anew : BindsAt (Str.ofString "acts_anew") i_acts_anew.st i_acts_anew.ps := fun _ _ _ _ _ _ us hl => match us, hl with | [_], _ => rfl
theorem b_numbers_by_acts : BindsAt (Str.ofString "numbers_by_acts") i_numbers_by_acts.st i_numbers_by_acts.ps := fun _ _ _ _ _ _ us hl => match us, hl with | [_, _, _], _ => rfl
theorem b_is_rule : BindsAt (Str.ofString "is_rule") i_is_rule.st i_is_rule.ps := fun _ _ _ _ _ _ us hl => match us, hl with | [_, _], _ => rfl
theorem b_rule_anew : BindsAt (Str.ofString "rule_anew") i_rule_anew.st i_rule_anew.ps := fun _ _ _ _ _ _ us hl => match us, hl with | [_], _ => rfl
theorem b_rules_anew : BindsAt (Str.ofString "rules_anew") i_rules_anew.st i_rules_anew.ps := fun _ _ _ _ _ _ us hl => match us, hl with | [_], _ => rfl
theorem b_rule_met : BindsAt (Str.ofString "rule_met") i_rule_met.st i_rule_met.ps := fun _ _ _ _ _ _ us hl => match us, hl with | [_, _], _ => rfl
theorem b_numbers_by_rules : BindsAt (Str.ofString "numbers_by_rules") i_numbers_by_rules.st i_numbers_by_rules.ps := fun _ _ _ _ _ _ us hl => match us, hl with | [_, _, _], _ => rfl
theorem b_table_of_rules : BindsAt (Str.ofString "table_of_rules") i_table_of_rules.st i_table_of_rules.ps := fun _ _ _ _ _ _ us hl => match us, hl with | [_, _], _ => rfl
theorem b_clash_told : BindsAt (Str.ofString "clash_told") i_clash_told.st i_clash_told.ps := fun _ _ _ _ _ _ us hl => match us, hl with | [_, _, _], _ => rfl
theorem b_with_rule : BindsAt (Str.ofString "with_rule") i_with_rule.st i_with_rule.ps := fun _ _ _ _ _ _ us hl => match us, hl with | [_, _, _, _], _ => rfl
theorem b_without_rule : BindsAt (Str.ofString "without_rule") i_without_rule.st i_without_rule.ps := fun _ _ _ _ _ _ us hl => match us, hl with | [_, _], _ => rfl
theorem b_exchanged_rules : BindsAt (Str.ofString "exchanged_rules") i_exchanged_rules.st i_exchanged_rules.ps := fun _ _ _ _ _ _ us hl => match us, hl with | [_, _], _ => rfl
theorem b_may_exchange : BindsAt (Str.ofString "may_exchange") i_may_exchange.st i_may_exchange.ps := fun _ _ _ _ _ _ us hl => match us, hl with | [_, _, _], _ => rfl
theorem b__law_feed : BindsAt (Str.ofString "_law_feed") i__law_feed.st i__law_feed.ps := fun _ _ _ _ _ _ us hl => match us, hl with | [_], _ => rfl
theorem b__law_draw : BindsAt (Str.ofString "_law_draw") i__law_draw.st i__law_draw.ps := fun _ _ _ _ _ _ us hl => match us, hl with | [_, _], _ => rfl
theorem b__law_whole : BindsAt (Str.ofString "_law_whole") i__law_whole.st i__law_whole.ps := fun _ _ _ _ _ _ us hl => match us, hl with | [_], _ => rfl
theorem b__law_are_pairs : BindsAt (Str.ofString "_law_are_pairs") i__law_are_pairs.st i__law_are_pairs.ps := fun _ _ _ _ _ _ us hl => match us, hl with | [_, _], _ => rfl
theorem b__law_are_acts : BindsAt (Str.ofString "_law_are_acts") i__law_are_acts.st i__law_are_acts.ps := fun _ _ _ _ _ _ us hl => match us, hl with | [_, _], _ => rfl
theorem b__law_is_rule : BindsAt (Str.ofString "_law_is_rule") i__law_is_rule.st i__law_is_rule.ps := fun _ _ _ _ _ _ us hl => match us, hl with | [_, _], _ => rfl
theorem b__law_copied : BindsAt (Str.ofString "_law_copied") i__law_copied.st i__law_copied.ps := fun _ _ _ _ _ _ us hl => match us, hl with | [_], _ => rfl
theorem b__law_same : BindsAt (Str.ofString "_law_same") i__law_same.st i__law_same.ps := fun _ _ _ _ _ _ us hl => match us, hl with | [_, _], _ => rfl
theorem b__law_acts : BindsAt (Str.ofString "_law_acts") i__law_acts.st i__law_acts.ps := fun _ _ _ _ _ _ us hl => match us, hl with | [_, _, _], _ => rfl
theorem b__law_rules : BindsAt (Str.ofString "_law_rules") i__law_rules.st i__law_rules.ps := fun _ _ _ _ _ _ us hl => match us, hl with | [_, _, _, _], _ => rfl
theorem b__law_parcels : BindsAt (Str.ofString "_law_parcels") i__law_parcels.st i__law_parcels.ps := fun _ _ _ _ _ _ us hl => match us, hl with | [_], _ => rfl
theorem b__law_number : BindsAt (Str.ofString "_law_number") i__law_number.st i__law_number.ps := fun _ _ _ _ _ _ us hl => match us, hl with | [_, _], _ => rfl
theorem b__law_done : BindsAt (Str.ofString "_law_done") i__law_done.st i__law_done.ps := fun _ _ _ _ _ _ us hl => match us, hl with | [_, _], _ => rfl
theorem b__law_rules_table : BindsAt (Str.ofString "_law_rules_table") i__law_rules_table.st i__law_rules_table.ps := fun _ _ _ _ _ _ us hl => match us, hl with | [_, _], _ => rfl
theorem b__law_name : BindsAt (Str.ofString "_law_name") i__law_name.st i__law_name.ps := fun _ _ _ _ _ _ us hl => match us, hl with | [_], _ => rfl
theorem b__law_fields : BindsAt (Str.ofString "_law_fields") i__law_fields.st i__law_fields.ps := fun _ _ _ _ _ _ us hl => match us, hl with | [_, _], _ => rfl
theorem b__law_asked : BindsAt (Str.ofString "_law_asked") i__law_asked.st i__law_asked.ps := fun _ _ _ _ _ _ us hl => match us, hl with | [_, _, _, _, _], _ => rfl
theorem b__law_due : BindsAt (Str.ofString "_law_due") i__law_due.st i__law_due.ps := fun _ _ _ _ _ _ us hl => match us, hl with | [_, _, _, _, _], _ => rfl
theorem b__law_deed_right : BindsAt (Str.ofString "_law_deed_right") i__law_deed_right.st i__law_deed_right.ps := fun _ _ _ _ _ _ us hl => match us, hl with | [_, _, _, _, _], _ => rfl
theorem b__law_bad_rules : BindsAt (Str.ofString "_law_bad_rules") i__law_bad_rules.st i__law_bad_rules.ps := fun _ _ _ _ _ _ us hl => match us, hl with | [_], _ => rfl
theorem b__law_right : BindsAt (Str.ofString "_law_right") i__law_right.st i__law_right.ps := fun _ _ _ _ _ _ us hl => match us, hl with | [_, _, _], _ => rfl
theorem b__law_row_right : BindsAt (Str.ofString "_law_row_right") i__law_row_right.st i__law_row_right.ps := fun _ _ _ _ _ _ us hl => match us, hl with | [_, _, _], _ => rfl
theorem b_law : BindsAt (Str.ofString "law") i_law.st i_law.ps := fun _ _ _ _ _ _ us hl => match us, hl with | [_], _ => rfl
theorem okAll : ∀ q ∈ T1, fiOk sig cls false q.2 = true := (List.forall_mem_cons.mpr ⟨ok_all_parcels, (List.forall_mem_cons.mpr ⟨ok_number_of_parcel, (List.forall_mem_cons.mpr ⟨ok_with_worth, (List.forall_mem_cons.mpr ⟨ok_with_worths, (List.forall_mem_cons.mpr ⟨ok_has_worths, (List.forall_mem_cons.mpr ⟨ok_is_whole, (List.forall_mem_cons.mpr ⟨ok_is_between, (List.forall_mem_cons.mpr ⟨ok_is_rising, (List.forall_mem_cons.mpr ⟨ok_is_pairs, (List.forall_mem_cons.mpr ⟨ok_are_acts, (List.forall_mem_cons.mpr ⟨ok_acts_anew, (List.forall_mem_cons.mpr ⟨ok_numbers_by_acts, (List.forall_mem_cons.mpr ⟨ok_is_rule, (List.forall_mem_cons.mpr ⟨ok_rule_anew, (List.forall_mem_cons.mpr ⟨ok_rules_anew, (List.forall_mem_cons.mpr ⟨ok_rule_met, (List.forall_mem_cons.mpr ⟨ok_numbers_by_rules, (List.forall_mem_cons.mpr ⟨ok_table_of_rules, (List.forall_mem_cons.mpr ⟨ok_clash_told, (List.forall_mem_cons.mpr ⟨ok_with_rule, (List.forall_mem_cons.mpr ⟨ok_without_rule, (List.forall_mem_cons.mpr ⟨ok_exchanged_rules, (List.forall_mem_cons.mpr ⟨ok_may_exchange, (List.forall_mem_cons.mpr ⟨ok__law_feed, (List.forall_mem_cons.mpr ⟨ok__law_draw, (List.forall_mem_cons.mpr ⟨ok__law_whole, (List.forall_mem_cons.mpr ⟨ok__law_are_pairs, (List.forall_mem_cons.mpr ⟨ok__law_are_acts, (List.forall_mem_cons.mpr ⟨ok__law_is_rule, (List.forall_mem_cons.mpr ⟨ok__law_copied, (List.forall_mem_cons.mpr ⟨ok__law_same, (List.forall_mem_cons.mpr ⟨ok__law_acts, (List.forall_mem_cons.mpr ⟨ok__law_rules, (List.forall_mem_cons.mpr ⟨ok__law_parcels, (List.forall_mem_cons.mpr ⟨ok__law_number, (List.forall_mem_cons.mpr ⟨ok__law_done, (List.forall_mem_cons.mpr ⟨ok__law_rules_table, (List.forall_mem_cons.mpr ⟨ok__law_name, (List.forall_mem_cons.mpr ⟨ok__law_fields, (List.forall_mem_cons.mpr ⟨ok__law_asked, (List.forall_mem_cons.mpr ⟨ok__law_due, (List.forall_mem_cons.mpr ⟨ok__law_deed_right, (List.forall_mem_cons.mpr ⟨ok__law_bad_rules, (List.forall_mem_cons.mpr ⟨ok__law_right, (List.forall_mem_cons.mpr ⟨ok__law_row_right, (List.forall_mem_cons.mpr ⟨ok_law, (fun _ z => by cases z)⟩)⟩)⟩)⟩)⟩)⟩)⟩)⟩)⟩)⟩)⟩)⟩)⟩)⟩)⟩)⟩)⟩)⟩)⟩)⟩)⟩)⟩)⟩)⟩)⟩)⟩)⟩)⟩)⟩)⟩)⟩)⟩)⟩)⟩)⟩)⟩)⟩)⟩)⟩)⟩)⟩)⟩)⟩)⟩)⟩)⟩)
theorem defAll {K : W.Frag} (d_all_parcels : DefAt K (Str.ofString "all_parcels") (top 6)) (d_number_of_parcel : DefAt K (Str.ofString "number_of_parcel") (top 7)) (d_with_worth : DefAt K (Str.ofString "with_worth") (top 8)) (d_with_worths : DefAt K (Str.ofString "with_worths") (top 9)) (d_has_worths : DefAt K (Str.ofString "has_worths") (top 10)) (d_is_whole : DefAt K (Str.ofString "is_whole") (top 12)) (d_is_between : DefAt K (Str.ofString "is_between") (top 13)) (d_is_rising : DefAt K (Str.ofString "is_rising") (top 14)) (d_is_pairs : DefAt K (Str.ofString "is_pairs") (top 16)) (d_are_acts : DefAt K (Str.ofString "are_acts") (top 17)) (d_acts_anew : DefAt K (Str.ofString "acts_anew") (top 18)) (d_numbers_by_acts : DefAt K (Str.ofString "numbers_by_acts") (top 19)) (d_is_rule : DefAt K (Str.ofString "is_rule") (top 22)) (d_rule_anew : DefAt K (Str.ofString "rule_anew") (top 23)) (d_rules_anew : DefAt K (Str.ofString "rules_anew") (top 24)) (d_rule_met : DefAt K (Str.ofString "rule_met") (top 25)) (d_numbers_by_rules : DefAt K (Str.ofString "numbers_by_rules") (top 26)) (d_table_of_rules : DefAt K (Str.ofString "table_of_rules") (top 27)) (d_clash_told : DefAt K (Str.ofString "clash_told") (top 29)) (d_with_rule : DefAt K (Str.ofString "with_rule") (top 30)) (d_without_rule : DefAt K (Str.ofString "without_rule") (top 31)) (d_exchanged_rules : DefAt K (Str.ofString "exchanged_rules") (top 32)) (d_may_exchange : DefAt K (Str.ofString "may_exchange") (top 33)) (d__law_feed : DefAt K (Str.ofString "_law_feed") (top 35)) (d__law_draw : DefAt K (Str.ofString "_law_draw") (top 36)) (d__law_whole : DefAt K (Str.ofString "_law_whole") (top 37)) (d__law_are_pairs : DefAt K (Str.ofString "_law_are_pairs") (top 38)) (d__law_are_acts : DefAt K (Str.ofString "_law_are_acts") (top 39)) (d__law_is_rule : DefAt K (Str.ofString "_law_is_rule") (top 40)) (d__law_copied : DefAt K (Str.ofString "_law_copied") (top 41)) (d__law_same : DefAt K (Str.ofString "_law_same") (top 42)) (d__law_acts : DefAt K (Str.ofString "_law_acts") (top 43)) (d__law_rules : DefAt K (Str.ofString "_law_rules") (top 44)) (d__law_parcels : DefAt K (Str.ofString "_law_parcels") (top 45)) (d__law_number : DefAt K (Str.ofString "_law_number") (top 46)) (d__law_done : DefAt K (Str.ofString "_law_done") (top 47)) (d__law_rules_table : DefAt K (Str.ofString "_law_rules_table") (top 48)) (d__law_name : DefAt K (Str.ofString "_law_name") (top 49)) (d__law_fields : DefAt K (Str.ofString "_law_fields") (top 50)) (d__law_asked : DefAt K (Str.ofString "_law_asked") (top 51)) (d__law_due : DefAt K (Str.ofString "_law_due") (top 52)) (d__law_deed_right : DefAt K (Str.ofString "_law_deed_right") (top 53)) (d__law_bad_rules : DefAt K (Str.ofString "_law_bad_rules") (top 54)) (d__law_right : DefAt K (Str.ofString "_law_right") (top 55)) (d__law_row_right : DefAt K (Str.ofString "_law_row_right") (top 56)) (d_law : DefAt K (Str.ofString "law") (top 57)) : ∀ q ∈ T1, DefAt K q.1 q.2.st ∧ BindsAt q.1 q.2.st q.2.ps := (List.forall_mem_cons.mpr ⟨⟨d_all_parcels, b_all_parcels⟩, (List.forall_mem_cons.mpr ⟨⟨d_number_of_parcel, b_number_of_parcel⟩, (List.forall_mem_cons.mpr ⟨⟨d_with_worth, b_with_worth⟩, (List.forall_mem_cons.mpr ⟨⟨d_with_worths, b_with_worths⟩, (List.forall_mem_cons.mpr ⟨⟨d_has_worths, b_has_worths⟩, (List.forall_mem_cons.mpr ⟨⟨d_is_whole, b_is_whole⟩, (List.forall_mem_cons.mpr ⟨⟨d_is_between, b_is_between⟩, (List.forall_mem_cons.mpr ⟨⟨d_is_rising, b_is_rising⟩, (List.forall_mem_cons.mpr ⟨⟨d_is_pairs, b_is_pairs⟩, (List.forall_mem_cons.mpr ⟨⟨d_are_acts, b_are_acts⟩, (List.forall_mem_cons.mpr ⟨⟨d_acts_anew, b_acts_anew⟩, (List.forall_mem_cons.mpr ⟨⟨d_numbers_by_acts, b_numbers_by_acts⟩, (List.forall_mem_cons.mpr ⟨⟨d_is_rule, b_is_rule⟩, (List.forall_mem_cons.mpr ⟨⟨d_rule_anew, b_rule_anew⟩, (List.forall_mem_cons.mpr ⟨⟨d_rules_anew, b_rules_anew⟩, (List.forall_mem_cons.mpr ⟨⟨d_rule_met, b_rule_met⟩, (List.forall_mem_cons.mpr ⟨⟨d_numbers_by_rules, b_numbers_by_rules⟩, (List.forall_mem_cons.mpr ⟨⟨d_table_of_rules, b_table_of_rules⟩, (List.forall_mem_cons.mpr ⟨⟨d_clash_told, b_clash_told⟩, (List.forall_mem_cons.mpr ⟨⟨d_with_rule, b_with_rule⟩, (List.forall_mem_cons.mpr ⟨⟨d_without_rule, b_without_rule⟩, (List.forall_mem_cons.mpr ⟨⟨d_exchanged_rules, b_exchanged_rules⟩, (List.forall_mem_cons.mpr ⟨⟨d_may_exchange, b_may_exchange⟩, (List.forall_mem_cons.mpr ⟨⟨d__law_feed, b__law_feed⟩, (List.forall_mem_cons.mpr ⟨⟨d__law_draw, b__law_draw⟩, (List.forall_mem_cons.mpr ⟨⟨d__law_whole, b__law_whole⟩, (List.forall_mem_cons.mpr ⟨⟨d__law_are_pairs, b__law_are_pairs⟩, (List.forall_mem_cons.mpr ⟨⟨d__law_are_acts, b__law_are_acts⟩, (List.forall_mem_cons.mpr ⟨⟨d__law_is_rule, b__law_is_rule⟩, (List.forall_mem_cons.mpr ⟨⟨d__law_copied, b__law_copied⟩, (List.forall_mem_cons.mpr ⟨⟨d__law_same, b__law_same⟩, (List.forall_mem_cons.mpr ⟨⟨d__law_acts, b__law_acts⟩, (List.forall_mem_cons.mpr ⟨⟨d__law_rules, b__law_rules⟩, (List.forall_mem_cons.mpr ⟨⟨d__law_parcels, b__law_parcels⟩, (List.forall_mem_cons.mpr ⟨⟨d__law_number, b__law_number⟩, (List.forall_mem_cons.mpr ⟨⟨d__law_done, b__law_done⟩, (List.forall_mem_cons.mpr ⟨⟨d__law_rules_table, b__law_rules_table⟩, (List.forall_mem_cons.mpr ⟨⟨d__law_name, b__law_name⟩, (List.forall_mem_cons.mpr ⟨⟨d__law_fields, b__law_fields⟩, (List.forall_mem_cons.mpr ⟨⟨d__law_asked, b__law_asked⟩, (List.forall_mem_cons.mpr ⟨⟨d__law_due, b__law_due⟩, (List.forall_mem_cons.mpr ⟨⟨d__law_deed_right, b__law_deed_right⟩, (List.forall_mem_cons.mpr ⟨⟨d__law_bad_rules, b__law_bad_rules⟩, (List.forall_mem_cons.mpr ⟨⟨d__law_right, b__law_right⟩, (List.forall_mem_cons.mpr ⟨⟨d__law_row_right, b__law_row_right⟩, (List.forall_mem_cons.mpr ⟨⟨d_law, b_law⟩, (fun _ z => by cases z)⟩)⟩)⟩)⟩)⟩)⟩)⟩)⟩)⟩)⟩)⟩)⟩)⟩)⟩)⟩)⟩)⟩)⟩)⟩)⟩)⟩)⟩)⟩)⟩)⟩)⟩)⟩)⟩)⟩)⟩)⟩)⟩)⟩)⟩)⟩)⟩)⟩)⟩)⟩)⟩)⟩)⟩)⟩)⟩)⟩)⟩)
theorem tabEq : tab = T1.map fun q => (q.1, q.2.fn) := rfl
theorem sigEq : sig = T1.map fun q => (q.1, q.2.fn.np) := rfl
def iniS_NoPlace : Stmt := clsIni (top 4)
theorem iniOk_NoPlace : iniC [Str.ofString "self", Str.ofString "k"] iniS_NoPlace [Str.ofString "k"] = true := by decide +kernel
def iniS_BadRule : Stmt := clsIni (top 3)
theorem iniOk_BadRule : iniC [Str.ofString "self", Str.ofString "k"] iniS_BadRule [Str.ofString "k"] = true := by decide +kernel
end P85

set_option autoImplicit false
set_option linter.all false
set_option maxRecDepth 100000
set_option maxHeartbeats 1000000
namespace Vf.Q
open PySem
/-! Q0 -/
/-! W0: what a computation of the evaluator ends with, rules. -/

theorem kp {α : Type} {a b : α} (h : a = b) : a = b := h
theorem kpP {a b : Prop} (h : a = b) : a = b := h
@[irreducible] def Wp {α : Type} (m : M α) (μ : Sto) (Q : α → Sto → Prop) (X : Str → List D → Sto → Prop) : Prop :=
  match m μ with
  | .ok a μ' => Q a μ'
  | .exc c fs μ' => X c fs μ'
  | .bad => False
theorem wp_congr {α : Type} {m m' : M α} {μ : Sto} {Q : α → Sto → Prop} {X : Str → List D → Sto → Prop} (h : m = m') : Wp m μ Q X = Wp m' μ Q X := by rw [h]
section
variable {α β : Type} {m : M α} {μ : Sto} {Q Q' : α → Sto → Prop} {X X' : Str → List D → Sto → Prop}
theorem wp_ret {a : α} : Wp (M.ret a) μ Q X = Q a μ := by with_unfolding_all rfl
theorem wp_bad : Wp (M.bad : M α) μ Q X = False := by with_unfolding_all rfl
theorem wp_bind {f : α → M β} {Q : β → Sto → Prop} : Wp (M.bind m f) μ Q X = Wp m μ (fun a μ' => Wp (f a) μ' Q X) X := by
  unfold Wp M.bind
  cases m μ <;> rfl
theorem wp_guard {b : Bool} : Wp (guard' b m) μ Q X = (b = true ∧ Wp m μ Q X) := by
  cases b <;> simp [guard', wp_bad]
theorem wp_some {a : α} : Wp (ofO (some a)) μ Q X = Q a μ := by with_unfolding_all rfl
theorem wp_none : Wp (ofO (none : Option α)) μ Q X = False := by with_unfolding_all rfl
theorem wp_exc {c : Str} {fs : List D} : Wp (M.exc c fs : M α) μ Q X = X c fs μ := by with_unfolding_all rfl
def nX : Str → List D → Sto → Prop := fun _ _ _ => False
theorem wp_nox : Wp (nox m) μ Q X = Wp m μ Q nX := by
  unfold Wp nox nX
  cases m μ <;> rfl
theorem Wp.mono (h : Wp m μ Q X) (f : ∀ a μ', Q a μ' → Q' a μ') : Wp m μ Q' X := by
  unfold Wp at *
  cases hm : m μ <;> simp only [hm] at h ⊢
  · exact f _ _ h
  · exact h
theorem Wp.monoX (h : Wp m μ Q nX) (f : ∀ a μ', Q a μ' → Q' a μ') : Wp m μ Q' X := by
  unfold Wp at *
  cases hm : m μ <;> simp only [hm] at h ⊢
  · exact f _ _ h
  · exact h.elim
theorem wp_ok {a : α} {μ' : Sto} (h : m μ = .ok a μ') : Wp m μ Q X = Q a μ' := by
  unfold Wp; rw [h]
theorem Wp.of_ok {a : α} {μ' : Sto} (h : m μ = .ok a μ') (q : Q a μ') : Wp m μ Q X := by
  rw [wp_ok h]; exact q
theorem Wp.get (h : Wp m μ Q nX) : ∃ a μ', m μ = .ok a μ' ∧ Q a μ' := by
  unfold Wp at h
  cases hm : m μ <;> simp only [hm] at h
  · exact ⟨_, _, rfl, h⟩
  · exact h.elim
end

/-! ### expressions -/
section
variable {Φ : Cfg} {ρ : Env} {μ : Sto} {Q : D → Sto → Prop} {X : Str → List D → Sto → Prop}
/-- an operand -/
def Op (Φ : Cfg) (a : E) (ρ : Env) : M D := M.bind (evE Φ a ρ) (opnd (isBrw a))
theorem w_var {i : Nat} : Wp (evE Φ (.var i) ρ) μ Q X = Wp (match ρ[i]? with
    | some (some d) => guard' d.nb (M.ret d)
    | _ => M.bad) μ Q X := by with_unfolding_all rfl
theorem w_brw {i : Nat} : Wp (evE Φ (.brw i) ρ) μ Q X = Wp (match ρ[i]? with
    | some (some d) => M.ret d
    | _ => M.bad) μ Q X := by with_unfolding_all rfl
theorem w_non : Wp (evE Φ .non ρ) μ Q X = Q .non μ := by with_unfolding_all rfl
theorem w_bl {b : Bool} : Wp (evE Φ (.bl b) ρ) μ Q X = Q (.bl b) μ := by with_unfolding_all rfl
theorem w_int {i : Int} : Wp (evE Φ (.int i) ρ) μ Q X = Q (.int i) μ := by with_unfolding_all rfl
theorem w_str {x : Str} : Wp (evE Φ (.str x) ρ) μ Q X = Q (.str x) μ := by with_unfolding_all rfl
theorem w_glob {x : Str} : Wp (evE Φ (.glob x) ρ) μ Q X = Wp (ofO (Φ.gl x)) μ Q X := by with_unfolding_all rfl
theorem w_opv {i : Nat} : Wp (Op Φ (.var i) ρ) μ Q X = Wp (match ρ[i]? with
    | some (some d) => guard' d.nb (M.ret d.fz)
    | _ => M.bad) μ Q X := by
  unfold Op
  rw [wp_bind, w_var]
  cases h : ρ[i]? with
  | none => with_unfolding_all rfl
  | some d => cases d with
    | none => with_unfolding_all rfl
    | some d => simp only [wp_guard, wp_ret, isBrw, opnd]
theorem w_opb {i : Nat} : Wp (Op Φ (.brw i) ρ) μ Q X = Wp (match ρ[i]? with
    | some (some d) => guard' d.inb (M.ret d)
    | _ => M.bad) μ Q X := by
  unfold Op
  rw [wp_bind, w_brw]
  cases h : ρ[i]? with
  | none => with_unfolding_all rfl
  | some d => cases d with
    | none => with_unfolding_all rfl
    | some d => simp only [wp_guard, wp_ret, isBrw, opnd]
theorem w_op {a : E} (h : isBrw a = false) : Wp (Op Φ a ρ) μ Q X = Wp (evE Φ a ρ) μ (fun d μ' => Q d.fz μ') X := by
  unfold Op
  rw [wp_bind, h]; with_unfolding_all rfl
theorem w_bin {op : Bop} {a b : E} : Wp (evE Φ (.bin op a b) ρ) μ Q X = Wp (Op Φ a ρ) μ (fun x μ1 => Wp (Op Φ b ρ) μ1 (fun y μ2 => Wp (binD op x y) μ2 Q X) X) X := by
  simp only [evE, wp_bind, Op]
  try rfl
theorem w_neg {a : E} : Wp (evE Φ (.neg a) ρ) μ Q X = Wp (evE Φ a ρ) μ (fun x μ1 => Wp (match x with | .int i => M.ret (.int (-i)) | _ => M.bad) μ1 Q X) X := by
  simp only [evE, wp_bind]
  try rfl
theorem w_not {a : E} : Wp (evE Φ (.not a) ρ) μ Q X = Wp (Op Φ a ρ) μ (fun x μ1 => Wp (tests x) μ1 (fun b μ2 => Q (.bl (!b)) μ2) X) X := by
  simp only [evE, wp_bind, Op, wp_ret]
  try rfl
def andK (Φ : Cfg) (b : E) (ρ : Env) (x : D) : Bool → M D
  | true => evE Φ b ρ
  | false => M.ret x
def orK (Φ : Cfg) (b : E) (ρ : Env) (x : D) : Bool → M D
  | true => M.ret x
  | false => evE Φ b ρ
theorem w_and {a b : E} : Wp (evE Φ (.and a b) ρ) μ Q X = Wp (evE Φ a ρ) μ (fun x μ1 => Wp (tests x) μ1 (fun t μ2 => Wp (andK Φ b ρ x t) μ2 Q X) X) X := by
  simp only [evE, wp_bind]
  try (first | rfl | (congr; funext x μ1; congr; funext t μ2; cases t <;> rfl))
theorem w_or {a b : E} : Wp (evE Φ (.or a b) ρ) μ Q X = Wp (evE Φ a ρ) μ (fun x μ1 => Wp (tests x) μ1 (fun t μ2 => Wp (orK Φ b ρ x t) μ2 Q X) X) X := by
  simp only [evE, wp_bind]
  try (first | rfl | (congr; funext x μ1; congr; funext t μ2; cases t <;> rfl))
theorem w_andT {b : E} {x : D} : Wp (andK Φ b ρ x true) μ Q X = Wp (evE Φ b ρ) μ Q X := by with_unfolding_all rfl
theorem w_andF {b : E} {x : D} : Wp (andK Φ b ρ x false) μ Q X = Q x μ := by with_unfolding_all rfl
theorem w_orT {b : E} {x : D} : Wp (orK Φ b ρ x true) μ Q X = Q x μ := by with_unfolding_all rfl
theorem w_orF {b : E} {x : D} : Wp (orK Φ b ρ x false) μ Q X = Wp (evE Φ b ρ) μ Q X := by with_unfolding_all rfl
theorem w_cmp {op : Cop} {a b : E} : Wp (evE Φ (.cmp op a b) ρ) μ Q X = Wp (Op Φ a ρ) μ (fun x μ1 => Wp (Op Φ b ρ) μ1 (fun y μ2 => Wp (cmpD op x y) μ2 Q X) X) X := by
  simp only [evE, wp_bind, Op]
  try rfl
def chK (Φ : Cfg) (op : Cop) (c : E) (ρ : Env) (y : D) : D → M D
  | .bl true => M.bind (Op Φ c ρ) fun z => cmpD op y z
  | .bl false => M.ret (.bl false)
  | _ => M.bad
theorem w_chain {op op' : Cop} {a b c : E} : Wp (evE Φ (.chain op op' a b c) ρ) μ Q X = Wp (Op Φ a ρ) μ (fun x μ1 => Wp (Op Φ b ρ) μ1 (fun y μ2 => Wp (cmpD op x y) μ2 (fun t μ3 => Wp (chK Φ op' c ρ y t) μ3 Q X) X) X) X := by
  simp only [evE, wp_bind, Op]
  try (first | rfl | (congr; funext d μ0; congr; funext x μ1; congr; funext d μ0; congr; funext y μ2; congr; funext t μ3))
  try (unfold chK; split <;> first | rfl | simp [*])
theorem w_chT {op : Cop} {c : E} {y : D} : Wp (chK Φ op c ρ y (.bl true)) μ Q X = Wp (Op Φ c ρ) μ (fun z μ1 => Wp (cmpD op y z) μ1 Q X) X := by
  simp only [chK, wp_bind]
theorem w_chF {op : Cop} {c : E} {y : D} : Wp (chK Φ op c ρ y (.bl false)) μ Q X = Q (.bl false) μ := by with_unfolding_all rfl
def ifK (Φ : Cfg) (a b : E) (ρ : Env) : Bool → M D
  | true => evE Φ a ρ
  | false => evE Φ b ρ
theorem w_ife {c a b : E} : Wp (evE Φ (.ife c a b) ρ) μ Q X = Wp (Op Φ c ρ) μ (fun x μ1 => Wp (tests x) μ1 (fun t μ2 => Wp (ifK Φ a b ρ t) μ2 Q X) X) X := by
  simp only [evE, wp_bind, Op]
  try (first | rfl | (congr; funext x μ1; congr; funext x μ1; congr; funext t μ2; cases t <;> rfl))
theorem w_ifT {a b : E} : Wp (ifK Φ a b ρ true) μ Q X = Wp (evE Φ a ρ) μ Q X := by with_unfolding_all rfl
theorem w_ifF {a b : E} : Wp (ifK Φ a b ρ false) μ Q X = Wp (evE Φ b ρ) μ Q X := by with_unfolding_all rfl
theorem w_tup {es : List E} : Wp (evE Φ (.tup es) ρ) μ Q X = Wp (evEs Φ es ρ) μ (fun ds μ1 => ds.length ≤ LINE ∧ Q (.tup ds) μ1) X := by
  simp only [evE, wp_bind, tTup, wp_guard, wp_ret, decide_eq_true_eq]
  try rfl
theorem w_lst {es : List E} : Wp (evE Φ (.lst es) ρ) μ Q X = Wp (evEs Φ es ρ) μ (fun ds μ1 => ds.length ≤ LINE ∧ Q (.lst true ds) μ1) X := by
  simp only [evE, wp_bind, tLst, wp_guard, wp_ret, decide_eq_true_eq]
  try rfl
theorem w_dct0 : Wp (evE Φ .dct0 ρ) μ Q X = Q (.dct true [] []) μ := by with_unfolding_all rfl
theorem w_dct1 {k v : E} : Wp (evE Φ (.dct1 k v) ρ) μ Q X = Wp (evE Φ k ρ) μ (fun k μ1 => Wp (evE Φ v ρ) μ1 (fun v μ2 => Wp (match keyOf k with
      | some k => guard' v.nb (M.ret (.dct true [k] [v]))
      | none => M.bad) μ2 Q X) X) X := by
  simp only [evE, wp_bind]
  try rfl
theorem w_idx {a i : E} : Wp (evE Φ (.idx a i) ρ) μ Q X = Wp (Op Φ a ρ) μ (fun x μ1 => Wp (evE Φ i ρ) μ1 (fun y μ2 => Wp (idxD x y) μ2 Q X) X) X := by
  simp only [evE, wp_bind, Op]
  try rfl
theorem w_slc {a : E} {lo hi : Option E} : Wp (evE Φ (.slc a lo hi) ρ) μ Q X = Wp (Op Φ a ρ) μ (fun x μ1 => Wp (evO Φ lo ρ) μ1 (fun l μ2 => Wp (evO Φ hi ρ) μ2 (fun h μ3 => Wp (slcD x l h) μ3 Q X) X) X) X := by
  simp only [evE, wp_bind, Op]
  try rfl
theorem w_rev {a : E} : Wp (evE Φ (.rev a) ρ) μ Q X = Wp (Op Φ a ρ) μ (fun x μ1 => Wp (match x with
    | .lst _ ds => M.ret (.lst true ds.reverse)
    | _ => M.bad) μ1 Q X) X := by
  simp only [evE, wp_bind, Op]
  try rfl
theorem w_isi {a : E} {t : Ty} : Wp (evE Φ (.isi a t) ρ) μ Q X = Wp (Op Φ a ρ) μ (fun x μ1 => hasTy x = true ∧ Q (.bl (isTy x t)) μ1) X := by
  simp only [evE, wp_bind, Op, wp_guard, wp_ret]
  try rfl
theorem w_call {f : Str} {es : List E} : Wp (evE Φ (.call f es) ρ) μ Q X = Wp (evEs Φ es ρ) μ (fun ds μ1 => Wp (Φ.fn f (D.fzL ds)) μ1 Q X) X := by
  simp only [evE, wp_bind]
  try rfl
theorem w_blt {b : Blt} {e : E} : Wp (evE Φ (.blt b e) ρ) μ Q X = Wp (Op Φ e ρ) μ (fun x μ1 => Wp (bltD b x) μ1 Q X) X := by
  simp only [evE, wp_bind, Op]
  try rfl
def bdy (Φ : Cfg) (c : Option E) (e : E) : Option Env → M (Option D)
  | some ρ' => M.bind (evC Φ c ρ') fun | true => M.bind (evE Φ e ρ') fun y => M.ret (some y) | false => M.ret none
  | none => M.bad
theorem w_lc {t : T} {it : I} {c : Option E} {e : E} : Wp (evE Φ (.lc t it c e) ρ) μ Q X = Wp (evI Φ it ρ) μ (fun xs μ1 => Wp (mapC (fun x => bdy Φ c e (asg t x (wipe ρ t.ix))) xs []) μ1 (fun ys μ2 => Q (.lst true ys) μ2) nX) X := by
  simp only [evE, wp_bind, wp_nox, wp_ret]
  try (first | rfl | (congr; funext x μ1; congr; funext y μ2; unfold bdy; split <;> simp [*]))
def bdyK (Φ : Cfg) (e : E) (ρ : Env) : Bool → M (Option D)
  | true => M.bind (evE Φ e ρ) fun y => M.ret (some y)
  | false => M.ret none
theorem w_bdy {Q : Option D → Sto → Prop} {c : Option E} {e : E} : Wp (bdy Φ c e (some ρ)) μ Q X = Wp (evC Φ c ρ) μ (fun b μ1 => Wp (bdyK Φ e ρ b) μ1 Q X) X := by
  simp only [bdy, wp_bind]
  try (first | rfl | (congr; funext x μ1; cases x <;> rfl))
theorem w_bdyT {Q : Option D → Sto → Prop} {e : E} : Wp (bdyK Φ e ρ true) μ Q X = Wp (evE Φ e ρ) μ (fun y μ1 => Q (some y) μ1) X := by
  simp only [bdyK, wp_bind, wp_ret]
theorem w_bdyF {Q : Option D → Sto → Prop} {e : E} : Wp (bdyK Φ e ρ false) μ Q X = Q none μ := by with_unfolding_all rfl
theorem w_nil {Q : List D → Sto → Prop} : Wp (evEs Φ [] ρ) μ Q X = Q [] μ := by with_unfolding_all rfl
theorem w_cons {Q : List D → Sto → Prop} {e : E} {es : List E} : Wp (evEs Φ (e :: es) ρ) μ Q X = Wp (evE Φ e ρ) μ (fun d μ1 => Wp (evEs Φ es ρ) μ1 (fun ds μ2 => Q (d :: ds) μ2) X) X := by
  simp only [evEs, wp_bind, wp_ret]
theorem w_oN {Q : Option Int → Sto → Prop} : Wp (evO Φ none ρ) μ Q X = Q none μ := by with_unfolding_all rfl
theorem w_oS {Q : Option Int → Sto → Prop} {e : E} : Wp (evO Φ (some e) ρ) μ Q X = Wp (evE Φ e ρ) μ (fun d μ1 => Wp (match d with | .int i => M.ret (some i) | _ => M.bad) μ1 Q X) X := by
  simp only [evO, wp_bind]
  try rfl
theorem w_cN {Q : Bool → Sto → Prop} : Wp (evC Φ none ρ) μ Q X = Q true μ := by with_unfolding_all rfl
theorem w_cS {Q : Bool → Sto → Prop} {e : E} : Wp (evC Φ (some e) ρ) μ Q X = Wp (Op Φ e ρ) μ (fun d μ1 => Wp (tests d) μ1 Q X) X := by
  simp only [evC, wp_bind, Op]
  try rfl
variable {QL : List D → Sto → Prop}
theorem w_iseq {e : E} : Wp (evI Φ (.seq e) ρ) μ QL X = Wp (Op Φ e ρ) μ (fun d μ1 => Wp (items d) μ1 QL X) X := by
  simp only [evI, wp_bind, Op]
  try rfl
theorem w_irng1 {a : E} : Wp (evI Φ (.rng1 a) ρ) μ QL X = Wp (evE Φ a ρ) μ (fun d μ1 => Wp (match d with | .int j => rng 0 j | _ => M.bad) μ1 QL X) X := by
  simp only [evI, wp_bind]
  try rfl
theorem w_irng2 {a b : E} : Wp (evI Φ (.rng2 a b) ρ) μ QL X = Wp (evE Φ a ρ) μ (fun x μ1 => Wp (evE Φ b ρ) μ1 (fun y μ2 => Wp (match x, y with | .int i, .int j => rng i j | _, _ => M.bad) μ2 QL X) X) X := by
  simp only [evI, wp_bind]
  try rfl
theorem w_ienum {e : E} : Wp (evI Φ (.enum e) ρ) μ QL X = Wp (Op Φ e ρ) μ (fun x μ1 => Wp (itemsL x) μ1 (fun ds μ2 => QL (num 0 ds) μ2) X) X := by
  simp only [evI, wp_bind, Op, wp_ret]
  try rfl
def zipK (x y : D) : M (List D) := match x, y with
    | .lst _ xs, .lst _ ys => M.ret (zipD xs ys)
    | .tup xs, .tup ys => M.ret (zipD xs ys)
    | .lst _ xs, .tup ys => M.ret (zipD xs ys)
    | .str s, .lst _ ys => M.ret (zipD (chars s) ys)
    | _, _ => M.bad
theorem w_zip {a b : E} : Wp (evI Φ (.zip a b) ρ) μ QL X = Wp (Op Φ a ρ) μ (fun x μ1 => Wp (Op Φ b ρ) μ1 (fun y μ2 => Wp (zipK x y) μ2 QL X) X) X := by
  simp only [evI, wp_bind, Op]
  try rfl
theorem w_zipLL {a b : Bool} {xs ys : List D} : Wp (zipK (.lst a xs) (.lst b ys)) μ QL X = QL (zipD xs ys) μ := by with_unfolding_all rfl
theorem w_rng {a b : Int} : Wp (rng a b) μ QL X = ((-4611686018427387904 ≤ a ∧ a < 4611686018427387904 ∧ -4611686018427387904 ≤ b ∧ b < 4611686018427387904) ∧ QL ((List.range (b - a).toNat).map fun i => .int (a + (i : Nat))) μ) := by
  simp only [rng, wp_guard, wp_ret, decide_eq_true_eq]
end

/-! ### statements -/
section
variable {Φ : Cfg} {ρ : Env} {μ : Sto} {Q : Fl → Sto → Prop} {X : Str → List D → Sto → Prop}
/-- what comes behind a statement -/
def Kn (Φ : Cfg) (ss : List S) (Q : Fl → Sto → Prop) (X : Str → List D → Sto → Prop) : Fl → Sto → Prop
  | .nx ρ, μ => Wp (exSs Φ ss ρ) μ Q X
  | f, μ => Q f μ
theorem kn_nx {ss : List S} : Kn Φ ss Q X (.nx ρ) μ = Wp (exSs Φ ss ρ) μ Q X := by with_unfolding_all rfl
theorem kn_rt {ss : List S} {d : D} : Kn Φ ss Q X (.rt d) μ = Q (.rt d) μ := by with_unfolding_all rfl
theorem w_done : Wp (exSs Φ [] ρ) μ Q X = Q (.nx ρ) μ := by with_unfolding_all rfl
theorem w_seq {s : S} {ss : List S} : Wp (exSs Φ (s :: ss) ρ) μ Q X = Wp (exS Φ s ρ) μ (Kn Φ ss Q X) X := by
  simp only [exSs, wp_bind]
  try (first | rfl | (congr; funext f μ1; cases f <;> with_unfolding_all rfl))
def asK : Option Env → M Fl
  | some ρ' => M.ret (.nx ρ')
  | none => M.bad
theorem w_asK {ρ' : Env} : Wp (asK (some ρ')) μ Q X = Q (.nx ρ') μ := by with_unfolding_all rfl
theorem w_setT {t : T} {e : E} : Wp (exS Φ (.set true t e) ρ) μ Q X = Wp (evE Φ e ρ) μ (fun d μ1 => Wp (asK (asg t d.fz ρ)) μ1 Q X) X := by
  simp only [exS, wp_bind]
  try (first | rfl | (congr; funext d μ1; unfold asK; split <;> simp [*]))
theorem w_setF {t : T} {e : E} : Wp (exS Φ (.set false t e) ρ) μ Q X = Wp (evE Φ e ρ) μ (fun d μ1 => Wp (asK (asg t d ρ)) μ1 Q X) X := by
  simp only [exS, wp_bind]
  try (first | rfl | (congr; funext d μ1; unfold asK; split <;> simp [*]))
theorem w_aug {i : Nat} {op : Bop} {e : E} : Wp (exS Φ (.aug i op e) ρ) μ Q X = Wp (match ρ[i]? with
    | some (some x) => M.bind (evE Φ e ρ) fun y => M.bind (augD op x y) fun z => M.ret (.nx (ρ.set i (some z)))
    | _ => M.bad) μ Q X := by with_unfolding_all rfl
theorem w_app {i : Nat} {e : E} : Wp (exS Φ (.app i e) ρ) μ Q X = Wp (match ρ[i]? with
    | some (some (.lst true ds)) => M.bind (evE Φ e ρ) fun d => guard' (decide (ds.length < LINE)) (M.ret (.nx (ρ.set i (some (.lst true (ds ++ [d]))))))
    | _ => M.bad) μ Q X := by with_unfolding_all rfl
theorem w_put {i : Nat} {k e : E} : Wp (exS Φ (.put i k e) ρ) μ Q X = Wp (match ρ[i]? with
    | some (some x) => M.bind (evE Φ e ρ) fun d => M.bind (evE Φ k ρ) fun k => guard' d.nb (M.bind (putD x k d) fun x' => M.ret (.nx (ρ.set i (some x'))))
    | _ => M.bad) μ Q X := by with_unfolding_all rfl
theorem w_rput {a k e : E} : Wp (exS Φ (.rput a k e) ρ) μ Q X = Wp (evE Φ e ρ) μ (fun d μ1 => Wp (evE Φ a ρ) μ1 (fun a μ2 => Wp (evE Φ k ρ) μ2 (fun k μ3 => d.nb = true ∧ Wp (setR a k d) μ3 (fun _ μ4 => Q (.nx ρ) μ4) X) X) X) X := by
  simp only [exS, wp_bind, wp_guard, wp_ret]
theorem w_raug {a k e : E} {op : Bop} : Wp (exS Φ (.raug a k op e) ρ) μ Q X = Wp (evE Φ a ρ) μ (fun a μ1 => Wp (evE Φ k ρ) μ1 (fun k μ2 => Wp (getR a k) μ2 (fun x μ3 => Wp (evE Φ e ρ) μ3 (fun y μ4 => Wp (augD op x y) μ4 (fun d μ5 => Wp (setR a k d) μ5 (fun _ μ6 => Q (.nx ρ) μ6) X) X) X) X) X) X := by
  simp only [exS, wp_bind, wp_guard, wp_ret]
theorem w_expr {e : E} : Wp (exS Φ (.expr e) ρ) μ Q X = Wp (evE Φ e ρ) μ (fun _ μ1 => Q (.nx ρ) μ1) X := by
  simp only [exS, wp_bind, wp_ret]
theorem w_rt {e : E} : Wp (exS Φ (.ret e) ρ) μ Q X = Wp (evE Φ e ρ) μ (fun d μ1 => Q (.rt d) μ1) X := by
  simp only [exS, wp_bind, wp_ret]
theorem w_retN : Wp (exS Φ .retN ρ) μ Q X = Q (.rt .non) μ := by with_unfolding_all rfl
theorem w_retMv {i : Nat} : Wp (exS Φ (.retMv i) ρ) μ Q X = Wp (match ρ[i]? with
    | some (some d) => guard' (!d.isX) (M.ret (.rt d))
    | _ => M.bad) μ Q X := by with_unfolding_all rfl
def sfK (Φ : Cfg) (a b : List S) (ρ : Env) : Bool → M Fl
  | true => exSs Φ a ρ
  | false => exSs Φ b ρ
theorem w_sif {c : E} {a b : List S} : Wp (exS Φ (.ife c a b) ρ) μ Q X = Wp (Op Φ c ρ) μ (fun x μ1 => Wp (tests x) μ1 (fun t μ2 => Wp (sfK Φ a b ρ t) μ2 Q X) X) X := by
  simp only [exS, wp_bind, Op]
  try (first | rfl | (congr; funext x μ1; congr; funext x μ1; congr; funext t μ2; cases t <;> rfl))
theorem w_sfT {a b : List S} : Wp (sfK Φ a b ρ true) μ Q X = Wp (exSs Φ a ρ) μ Q X := by with_unfolding_all rfl
theorem w_sfF {a b : List S} : Wp (sfK Φ a b ρ false) μ Q X = Wp (exSs Φ b ρ) μ Q X := by with_unfolding_all rfl
def fbd (Φ : Cfg) (b : List S) : Option Env → M Fl
  | some ρ' => exSs Φ b ρ'
  | none => M.bad
theorem w_fbd {b : List S} : Wp (fbd Φ b (some ρ)) μ Q X = Wp (exSs Φ b ρ) μ Q X := by with_unfolding_all rfl
theorem w_for {t : T} {it : I} {b : List S} : Wp (exS Φ (.for_ t it b) ρ) μ Q X = Wp (evI Φ it ρ) μ (fun xs μ1 => Wp (forL (fun x ρ => fbd Φ b (asg t x ρ)) xs ρ) μ1 Q X) X := by
  simp only [exS, wp_bind]
  try (first | rfl | (congr; funext xs μ1; congr; funext x ρ; unfold fbd; split <;> simp [*]))
theorem w_while {c : E} {b : List S} : Wp (exS Φ (.while_ c b) ρ) μ Q X = Wp (whl (fun ρ => M.bind (Op Φ c ρ) tests) (fun ρ => exSs Φ b ρ) WF ρ) μ Q X := by with_unfolding_all rfl
theorem w_raise {c : Str} {es : List E} : Wp (exS Φ (.raise c es) ρ) μ Q X = Wp (evEs Φ es ρ) μ (fun ds μ1 => D.nbL ds = true ∧ X c ds μ1) X := by
  simp only [exS, wp_bind, wp_guard, wp_exc]
theorem w_frz {i : Nat} : Wp (exS Φ (.frz i) ρ) μ Q X = Wp (match ρ[i]? with
    | some (some d) => M.ret (.nx (ρ.set i (some d.fz)))
    | _ => M.bad) μ Q X := by with_unfolding_all rfl
theorem w_pass : Wp (exS Φ .pass ρ) μ Q X = Q (.nx ρ) μ := by with_unfolding_all rfl
theorem w_end {Q : D → Sto → Prop} {d : D} : Wp (endFl (.rt d)) μ Q X = Q d μ := by with_unfolding_all rfl
theorem w_endN {Q : D → Sto → Prop} : Wp (endFl (.nx ρ)) μ Q X = Q .non μ := by with_unfolding_all rfl
end

/-! ### operations -/
section
variable {μ : Sto} {Q : D → Sto → Prop} {X : Str → List D → Sto → Prop}
theorem w_add {i j : Int} : Wp (binD .add (.int i) (.int j)) μ Q X = Q (.int (i + j)) μ := by with_unfolding_all rfl
theorem w_sub {i j : Int} : Wp (binD .sub (.int i) (.int j)) μ Q X = Q (.int (i - j)) μ := by with_unfolding_all rfl
theorem w_mul {i j : Int} : Wp (binD .mul (.int i) (.int j)) μ Q X = (((-B64 < i ∧ i < B64) ∨ (-B64 < j ∧ j < B64)) ∧ Q (.int (i * j)) μ) := by
  simp only [binD, wp_guard, wp_ret, decide_eq_true_eq]
theorem w_mulL {b : Bool} {ds : List D} {k : Int} : Wp (binD .mul (.lst b ds) (.int k)) μ Q X = ((-9223372036854775808 ≤ k ∧ k < 9223372036854775808 ∧ ds.length * k.toNat ≤ LINE) ∧ Q (.lst true (List.replicate k.toNat ds).flatten) μ) := by
  simp only [binD, wp_guard, wp_ret, decide_eq_true_eq]
theorem w_fdiv {i j : Int} : Wp (binD .fdiv (.int i) (.int j)) μ Q X = ((0 < j ∧ j < 1073741824) ∧ Q (.int (i / j)) μ) := by
  simp only [binD, wp_guard, wp_ret, decide_eq_true_eq]
theorem w_mod {i j : Int} : Wp (binD .mod (.int i) (.int j)) μ Q X = (0 < j ∧ Q (.int (i % j)) μ) := by
  simp only [binD, wp_guard, wp_ret, decide_eq_true_eq]
theorem w_pow {i j : Int} : Wp (binD .pow (.int i) (.int j)) μ Q X = ((0 ≤ j ∧ j ≤ 1000000 ∧ -B64 < i ∧ i < B64) ∧ Q (.int (i ^ j.toNat)) μ) := by
  simp only [binD, wp_guard, wp_ret, decide_eq_true_eq]
theorem w_addT {as bs : List D} : Wp (binD .add (.tup as) (.tup bs)) μ Q X = ((as ++ bs).length ≤ LINE ∧ Q (.tup (as ++ bs)) μ) := by
  simp only [binD, tTup, wp_guard, wp_ret, decide_eq_true_eq]
theorem w_addL {a b : Bool} {as bs : List D} : Wp (binD .add (.lst a as) (.lst b bs)) μ Q X = ((as ++ bs).length ≤ LINE ∧ Q (.lst true (as ++ bs)) μ) := by
  simp only [binD, tLst, wp_guard, wp_ret, decide_eq_true_eq]
theorem w_eqi {i j : Int} : Wp (cmpD .eq (.int i) (.int j)) μ Q X = Q (.bl (decide (i = j))) μ := by
  have h : D.eqD (.int i) (.int j) = some (decide (i = j)) := by
    simp [D.eqD, D.toP, SeqAt.shaped, PyData.canLay0, PyData.depth, PyData.eqv]
    rfl
  simp only [cmpD, h, Option.map, wp_some]
theorem w_nei {i j : Int} : Wp (cmpD .ne (.int i) (.int j)) μ Q X = Q (.bl (!decide (i = j))) μ := by
  have h : D.eqD (.int i) (.int j) = some (decide (i = j)) := by
    simp [D.eqD, D.toP, SeqAt.shaped, PyData.canLay0, PyData.depth, PyData.eqv]
    rfl
  simp only [cmpD, h, Option.map, wp_some]
theorem w_lti {i j : Int} : Wp (cmpD .lt (.int i) (.int j)) μ Q X = Q (.bl (decide (i < j))) μ := by with_unfolding_all rfl
theorem w_lei {i j : Int} : Wp (cmpD .le (.int i) (.int j)) μ Q X = Q (.bl (decide (i ≤ j))) μ := by with_unfolding_all rfl
theorem w_gti {i j : Int} : Wp (cmpD .gt (.int i) (.int j)) μ Q X = Q (.bl (decide (j < i))) μ := by with_unfolding_all rfl
theorem w_gei {i j : Int} : Wp (cmpD .ge (.int i) (.int j)) μ Q X = Q (.bl (decide (j ≤ i))) μ := by with_unfolding_all rfl
variable {QB : Bool → Sto → Prop} {QL : List D → Sto → Prop}
theorem w_tbl {b : Bool} : Wp (tests (.bl b)) μ QB X = QB b μ := by with_unfolding_all rfl
theorem w_tin {b : Int} : Wp (tests (.int b)) μ QB X = QB (b != 0) μ := by with_unfolding_all rfl
theorem w_tls {b : Bool} {ds : List D} : Wp (tests (.lst b ds)) μ QB X = QB (!ds.isEmpty) μ := by with_unfolding_all rfl
theorem w_ixT {ds : List D} {i : Int} : Wp (idxD (.tup ds) (.int i)) μ Q X = Wp (ofO (L2.atI ds i)) μ Q X := by
  simp only [idxD, getD']
  cases L2.atI ds i <;> rfl
theorem w_ixL {b : Bool} {ds : List D} {i : Int} : Wp (idxD (.lst b ds) (.int i)) μ Q X = Wp (ofO (L2.atI ds i)) μ Q X := by
  simp only [idxD, getD']
  cases L2.atI ds i <;> rfl
theorem w_slL {b : Bool} {ds : List D} {l h : Option Int} : Wp (slcD (.lst b ds) l h) μ Q X = Q (.lst true (cutD ds l h)) μ := by with_unfolding_all rfl
theorem w_slT {ds : List D} {l h : Option Int} : Wp (slcD (.tup ds) l h) μ Q X = Q (.tup (cutD ds l h)) μ := by with_unfolding_all rfl
theorem w_len {b : Bool} {ds : List D} : Wp (bltD .len (.lst b ds)) μ Q X = Q (.int ds.length) μ := by with_unfolding_all rfl
theorem w_lenT {ds : List D} : Wp (bltD .len (.tup ds)) μ Q X = Q (.int ds.length) μ := by with_unfolding_all rfl
theorem w_list {b : Bool} {ds : List D} : Wp (bltD .list (.lst b ds)) μ Q X = Q (.lst true ds) μ := by with_unfolding_all rfl
theorem w_listT {ds : List D} : Wp (bltD .list (.tup ds)) μ Q X = Q (.lst true ds) μ := by with_unfolding_all rfl
theorem w_tuple {b : Bool} {ds : List D} : Wp (bltD .tuple (.lst b ds)) μ Q X = Q (.tup ds) μ := by with_unfolding_all rfl
theorem w_inti {i : Int} : Wp (bltD .int (.int i)) μ Q X = Q (.int i) μ := by with_unfolding_all rfl
theorem w_intb {b : Bool} : Wp (bltD .int (.bl b)) μ Q X = Q (.int (if b then 1 else 0)) μ := by with_unfolding_all rfl
theorem w_abs {i : Int} : Wp (bltD .abs (.int i)) μ Q X = Q (.int (if i < 0 then -i else i)) μ := by with_unfolding_all rfl
theorem w_itL {b : Bool} {ds : List D} : Wp (items (.lst b ds)) μ QL X = QL ds μ := by with_unfolding_all rfl
theorem w_itT {ds : List D} : Wp (items (.tup ds)) μ QL X = QL ds μ := by with_unfolding_all rfl
theorem w_itLL {b : Bool} {ds : List D} : Wp (itemsL (.lst b ds)) μ QL X = QL ds μ := by with_unfolding_all rfl
end
/-! Q1a -/
def pp : Prog := ⟨P85.tab, [], P85.gls, P85.xi⟩
def Φ (k : Nat) : Cfg := ⟨run pp k, fun x => pp.gl.lookup x, pp.xi⟩
theorem fnΦ {k : Nat} {f : Str} {ds : List D} : (Φ k).fn f ds = run pp k f ds := rfl
theorem e_all_parcels (k : Nat) (a : D) : run pp (k + 1) (Str.ofString "all_parcels") [a] = M.bind (exSs (Φ k) P85.f_all_parcels.body [some a, none, none, none, none, none]) endFl := kp rfl
theorem e_number_of_parcel (k : Nat) (a b : D) : run pp (k + 1) (Str.ofString "number_of_parcel") [a, b] = M.bind (exSs (Φ k) P85.f_number_of_parcel.body [some a, some b, none, none, none, none]) endFl := kp rfl
theorem e_with_worth (k : Nat) (a b c : D) : run pp (k + 1) (Str.ofString "with_worth") [a, b, c] = M.bind (exSs (Φ k) P85.f_with_worth.body [some a, some b, some c]) endFl := kp rfl
theorem e_with_worths (k : Nat) (a b : D) : run pp (k + 1) (Str.ofString "with_worths") [a, b] = M.bind (exSs (Φ k) P85.f_with_worths.body [some a, some b, none, none, none]) endFl := kp rfl
theorem e_has_worths (k : Nat) (a b : D) : run pp (k + 1) (Str.ofString "has_worths") [a, b] = M.bind (exSs (Φ k) P85.f_has_worths.body [some a, some b, none, none]) endFl := kp rfl
theorem e_is_whole (k : Nat) (a : D) : run pp (k + 1) (Str.ofString "is_whole") [a] = M.bind (exSs (Φ k) P85.f_is_whole.body [some a]) endFl := kp rfl
theorem e_is_between (k : Nat) (a b c : D) : run pp (k + 1) (Str.ofString "is_between") [a, b, c] = M.bind (exSs (Φ k) P85.f_is_between.body [some a, some b, some c]) endFl := kp rfl
theorem e_is_rising (k : Nat) (a : D) : run pp (k + 1) (Str.ofString "is_rising") [a] = M.bind (exSs (Φ k) P85.f_is_rising.body [some a, none]) endFl := kp rfl
theorem e_is_pairs (k : Nat) (a b : D) : run pp (k + 1) (Str.ofString "is_pairs") [a, b] = M.bind (exSs (Φ k) P85.f_is_pairs.body [some a, some b, none, none, none]) endFl := kp rfl
theorem e_are_acts (k : Nat) (a b : D) : run pp (k + 1) (Str.ofString "are_acts") [a, b] = M.bind (exSs (Φ k) P85.f_are_acts.body [some a, some b, none]) endFl := kp rfl
theorem e_acts_anew (k : Nat) (a : D) : run pp (k + 1) (Str.ofString "acts_anew") [a] = M.bind (exSs (Φ k) P85.f_acts_anew.body [some a, none]) endFl := kp rfl
theorem e_numbers_by_acts (k : Nat) (a b c : D) : run pp (k + 1) (Str.ofString "numbers_by_acts") [a, b, c] = M.bind (exSs (Φ k) P85.f_numbers_by_acts.body [some a, some b, some c, none, none]) endFl := kp rfl
theorem e_is_rule (k : Nat) (a b : D) : run pp (k + 1) (Str.ofString "is_rule") [a, b] = M.bind (exSs (Φ k) P85.f_is_rule.body [some a, some b]) endFl := kp rfl
theorem e_rule_anew (k : Nat) (a : D) : run pp (k + 1) (Str.ofString "rule_anew") [a] = M.bind (exSs (Φ k) P85.f_rule_anew.body [some a, none, none]) endFl := kp rfl
theorem e_rules_anew (k : Nat) (a : D) : run pp (k + 1) (Str.ofString "rules_anew") [a] = M.bind (exSs (Φ k) P85.f_rules_anew.body [some a, none]) endFl := kp rfl
theorem e_rule_met (k : Nat) (a b : D) : run pp (k + 1) (Str.ofString "rule_met") [a, b] = M.bind (exSs (Φ k) P85.f_rule_met.body [some a, some b, none, none, none]) endFl := kp rfl
theorem e_numbers_by_rules (k : Nat) (a b c : D) : run pp (k + 1) (Str.ofString "numbers_by_rules") [a, b, c] = M.bind (exSs (Φ k) P85.f_numbers_by_rules.body [some a, some b, some c, none]) endFl := kp rfl
theorem e_table_of_rules (k : Nat) (a b : D) : run pp (k + 1) (Str.ofString "table_of_rules") [a, b] = M.bind (exSs (Φ k) P85.f_table_of_rules.body [some a, some b, none]) endFl := kp rfl
theorem e_clash_told (k : Nat) (a b c : D) : run pp (k + 1) (Str.ofString "clash_told") [a, b, c] = M.bind (exSs (Φ k) P85.f_clash_told.body [some a, some b, some c, none]) endFl := kp rfl
theorem e_with_rule (k : Nat) (a b c d : D) : run pp (k + 1) (Str.ofString "with_rule") [a, b, c, d] = M.bind (exSs (Φ k) P85.f_with_rule.body [some a, some b, some c, some d]) endFl := kp rfl
theorem e_without_rule (k : Nat) (a b : D) : run pp (k + 1) (Str.ofString "without_rule") [a, b] = M.bind (exSs (Φ k) P85.f_without_rule.body [some a, some b]) endFl := kp rfl
theorem e_exchanged_rules (k : Nat) (a b : D) : run pp (k + 1) (Str.ofString "exchanged_rules") [a, b] = M.bind (exSs (Φ k) P85.f_exchanged_rules.body [some a, some b]) endFl := kp rfl
theorem e_may_exchange (k : Nat) (a b c : D) : run pp (k + 1) (Str.ofString "may_exchange") [a, b, c] = M.bind (exSs (Φ k) P85.f_may_exchange.body [some a, some b, some c]) endFl := kp rfl
theorem e__law_feed (k : Nat) (a : D) : run pp (k + 1) (Str.ofString "_law_feed") [a] = M.bind (exSs (Φ k) P85.f__law_feed.body [some a]) endFl := kp rfl
theorem e__law_draw (k : Nat) (a b : D) : run pp (k + 1) (Str.ofString "_law_draw") [a, b] = M.bind (exSs (Φ k) P85.f__law_draw.body [some a, some b, none, none, none]) endFl := kp rfl
theorem e__law_whole (k : Nat) (a : D) : run pp (k + 1) (Str.ofString "_law_whole") [a] = M.bind (exSs (Φ k) P85.f__law_whole.body [some a]) endFl := kp rfl
theorem e__law_are_pairs (k : Nat) (a b : D) : run pp (k + 1) (Str.ofString "_law_are_pairs") [a, b] = M.bind (exSs (Φ k) P85.f__law_are_pairs.body [some a, some b, none, none]) endFl := kp rfl
theorem e__law_are_acts (k : Nat) (a b : D) : run pp (k + 1) (Str.ofString "_law_are_acts") [a, b] = M.bind (exSs (Φ k) P85.f__law_are_acts.body [some a, some b, none, none]) endFl := kp rfl
theorem e__law_is_rule (k : Nat) (a b : D) : run pp (k + 1) (Str.ofString "_law_is_rule") [a, b] = M.bind (exSs (Φ k) P85.f__law_is_rule.body [some a, some b]) endFl := kp rfl
theorem e__law_copied (k : Nat) (a : D) : run pp (k + 1) (Str.ofString "_law_copied") [a] = M.bind (exSs (Φ k) P85.f__law_copied.body [some a, none, none, none]) endFl := kp rfl
theorem e__law_same (k : Nat) (a b : D) : run pp (k + 1) (Str.ofString "_law_same") [a, b] = M.bind (exSs (Φ k) P85.f__law_same.body [some a, some b, none]) endFl := kp rfl
theorem e__law_acts (k : Nat) (a b c : D) : run pp (k + 1) (Str.ofString "_law_acts") [a, b, c] = M.bind (exSs (Φ k) P85.f__law_acts.body [some a, some b, some c, none, none, none, none]) endFl := kp rfl
theorem e__law_rules (k : Nat) (a b c d : D) : run pp (k + 1) (Str.ofString "_law_rules") [a, b, c, d] = M.bind (exSs (Φ k) P85.f__law_rules.body [some a, some b, some c, some d, none, none, none, none]) endFl := kp rfl
theorem e__law_parcels (k : Nat) (a : D) : run pp (k + 1) (Str.ofString "_law_parcels") [a] = M.bind (exSs (Φ k) P85.f__law_parcels.body [some a, none, none, none, none, none, none]) endFl := kp rfl
theorem e__law_number (k : Nat) (a b : D) : run pp (k + 1) (Str.ofString "_law_number") [a, b] = M.bind (exSs (Φ k) P85.f__law_number.body [some a, some b, none, none]) endFl := kp rfl
theorem e__law_done (k : Nat) (a b : D) : run pp (k + 1) (Str.ofString "_law_done") [a, b] = M.bind (exSs (Φ k) P85.f__law_done.body [some a, some b, none, none, none, none, none, none, none, none]) endFl := kp rfl
theorem e__law_rules_table (k : Nat) (a b : D) : run pp (k + 1) (Str.ofString "_law_rules_table") [a, b] = M.bind (exSs (Φ k) P85.f__law_rules_table.body [some a, some b, none, none, none]) endFl := kp rfl
theorem e__law_name (k : Nat) (a : D) : run pp (k + 1) (Str.ofString "_law_name") [a] = M.bind (exSs (Φ k) P85.f__law_name.body [some a]) endFl := kp rfl
theorem e__law_fields (k : Nat) (a b : D) : run pp (k + 1) (Str.ofString "_law_fields") [a, b] = M.bind (exSs (Φ k) P85.f__law_fields.body [some a, some b, none, none, none, none]) endFl := kp rfl
theorem e__law_asked (k : Nat) (a b c d e : D) : run pp (k + 1) (Str.ofString "_law_asked") [a, b, c, d, e] = M.bind (exSs (Φ k) P85.f__law_asked.body [some a, some b, some c, some d, some e, none, none, none, none]) endFl := kp rfl
theorem e__law_due (k : Nat) (a b c d e : D) : run pp (k + 1) (Str.ofString "_law_due") [a, b, c, d, e] = M.bind (exSs (Φ k) P85.f__law_due.body [some a, some b, some c, some d, some e, none]) endFl := kp rfl
theorem e__law_deed_right (k : Nat) (a b c d e : D) : run pp (k + 1) (Str.ofString "_law_deed_right") [a, b, c, d, e] = M.bind (exSs (Φ k) P85.f__law_deed_right.body [some a, some b, some c, some d, some e, none, none, none, none, none, none]) endFl := kp rfl
theorem e__law_bad_rules (k : Nat) (a : D) : run pp (k + 1) (Str.ofString "_law_bad_rules") [a] = M.bind (exSs (Φ k) P85.f__law_bad_rules.body [some a, none, none]) endFl := kp rfl
theorem e__law_right (k : Nat) (a b c : D) : run pp (k + 1) (Str.ofString "_law_right") [a, b, c] = M.bind (exSs (Φ k) P85.f__law_right.body [some a, some b, some c, none, none, none, none, none]) endFl := kp rfl
theorem e__law_row_right (k : Nat) (a b c : D) : run pp (k + 1) (Str.ofString "_law_row_right") [a, b, c] = M.bind (exSs (Φ k) P85.f__law_row_right.body [some a, some b, some c, none, none, none, none, none, none, none]) endFl := kp rfl
theorem e_law (k : Nat) (a : D) : run pp (k + 1) (Str.ofString "law") [a] = M.bind (exSs (Φ k) P85.f_law.body [some a, none, none, none, none, none, none, none, none]) endFl := kp rfl
theorem gl_MOST_RULES {k : Nat} : (Φ k).gl (Str.ofString "MOST_RULES") = some (.int 64) := kp rfl
/-! Q1 -/
set_option autoImplicit false
section
variable {Φ : Cfg} {ρ : Env} {μ : Sto} {Q : D → Sto → Prop} {X : Str → List D → Sto → Prop}
set_option autoImplicit true in
theorem o_non : Wp (Op Φ .non ρ) μ Q X = Wp (evE Φ .non ρ) μ (fun d μ1 => Q d.fz μ1) X := w_op rfl
set_option autoImplicit true in
theorem o_bl {x0} : Wp (Op Φ (.bl x0) ρ) μ Q X = Wp (evE Φ (.bl x0) ρ) μ (fun d μ1 => Q d.fz μ1) X := w_op rfl
set_option autoImplicit true in
theorem o_int {x0} : Wp (Op Φ (.int x0) ρ) μ Q X = Wp (evE Φ (.int x0) ρ) μ (fun d μ1 => Q d.fz μ1) X := w_op rfl
set_option autoImplicit true in
theorem o_str {x0} : Wp (Op Φ (.str x0) ρ) μ Q X = Wp (evE Φ (.str x0) ρ) μ (fun d μ1 => Q d.fz μ1) X := w_op rfl
set_option autoImplicit true in
theorem o_glob {x0} : Wp (Op Φ (.glob x0) ρ) μ Q X = Wp (evE Φ (.glob x0) ρ) μ (fun d μ1 => Q d.fz μ1) X := w_op rfl
set_option autoImplicit true in
theorem o_bin {x0 x1 x2} : Wp (Op Φ (.bin x0 x1 x2) ρ) μ Q X = Wp (evE Φ (.bin x0 x1 x2) ρ) μ (fun d μ1 => Q d.fz μ1) X := w_op rfl
set_option autoImplicit true in
theorem o_neg {x0} : Wp (Op Φ (.neg x0) ρ) μ Q X = Wp (evE Φ (.neg x0) ρ) μ (fun d μ1 => Q d.fz μ1) X := w_op rfl
set_option autoImplicit true in
theorem o_not {x0} : Wp (Op Φ (.not x0) ρ) μ Q X = Wp (evE Φ (.not x0) ρ) μ (fun d μ1 => Q d.fz μ1) X := w_op rfl
set_option autoImplicit true in
theorem o_and {x0 x1} : Wp (Op Φ (.and x0 x1) ρ) μ Q X = Wp (evE Φ (.and x0 x1) ρ) μ (fun d μ1 => Q d.fz μ1) X := w_op rfl
set_option autoImplicit true in
theorem o_or {x0 x1} : Wp (Op Φ (.or x0 x1) ρ) μ Q X = Wp (evE Φ (.or x0 x1) ρ) μ (fun d μ1 => Q d.fz μ1) X := w_op rfl
set_option autoImplicit true in
theorem o_cmp {x0 x1 x2} : Wp (Op Φ (.cmp x0 x1 x2) ρ) μ Q X = Wp (evE Φ (.cmp x0 x1 x2) ρ) μ (fun d μ1 => Q d.fz μ1) X := w_op rfl
set_option autoImplicit true in
theorem o_chain {x0 x1 x2 x3 x4} : Wp (Op Φ (.chain x0 x1 x2 x3 x4) ρ) μ Q X = Wp (evE Φ (.chain x0 x1 x2 x3 x4) ρ) μ (fun d μ1 => Q d.fz μ1) X := w_op rfl
set_option autoImplicit true in
theorem o_ife {x0 x1 x2} : Wp (Op Φ (.ife x0 x1 x2) ρ) μ Q X = Wp (evE Φ (.ife x0 x1 x2) ρ) μ (fun d μ1 => Q d.fz μ1) X := w_op rfl
set_option autoImplicit true in
theorem o_tup {x0} : Wp (Op Φ (.tup x0) ρ) μ Q X = Wp (evE Φ (.tup x0) ρ) μ (fun d μ1 => Q d.fz μ1) X := w_op rfl
set_option autoImplicit true in
theorem o_lst {x0} : Wp (Op Φ (.lst x0) ρ) μ Q X = Wp (evE Φ (.lst x0) ρ) μ (fun d μ1 => Q d.fz μ1) X := w_op rfl
set_option autoImplicit true in
theorem o_idx {x0 x1} : Wp (Op Φ (.idx x0 x1) ρ) μ Q X = Wp (evE Φ (.idx x0 x1) ρ) μ (fun d μ1 => Q d.fz μ1) X := w_op rfl
set_option autoImplicit true in
theorem o_slc {x0 x1 x2} : Wp (Op Φ (.slc x0 x1 x2) ρ) μ Q X = Wp (evE Φ (.slc x0 x1 x2) ρ) μ (fun d μ1 => Q d.fz μ1) X := w_op rfl
set_option autoImplicit true in
theorem o_rev {x0} : Wp (Op Φ (.rev x0) ρ) μ Q X = Wp (evE Φ (.rev x0) ρ) μ (fun d μ1 => Q d.fz μ1) X := w_op rfl
set_option autoImplicit true in
theorem o_isi {x0 x1} : Wp (Op Φ (.isi x0 x1) ρ) μ Q X = Wp (evE Φ (.isi x0 x1) ρ) μ (fun d μ1 => Q d.fz μ1) X := w_op rfl
set_option autoImplicit true in
theorem o_fld {x0 x1} : Wp (Op Φ (.fld x0 x1) ρ) μ Q X = Wp (evE Φ (.fld x0 x1) ρ) μ (fun d μ1 => Q d.fz μ1) X := w_op rfl
set_option autoImplicit true in
theorem o_isE {x0 x1} : Wp (Op Φ (.isE x0 x1) ρ) μ Q X = Wp (evE Φ (.isE x0 x1) ρ) μ (fun d μ1 => Q d.fz μ1) X := w_op rfl
set_option autoImplicit true in
theorem o_call {x0 x1} : Wp (Op Φ (.call x0 x1) ρ) μ Q X = Wp (evE Φ (.call x0 x1) ρ) μ (fun d μ1 => Q d.fz μ1) X := w_op rfl
set_option autoImplicit true in
theorem o_blt {x0 x1} : Wp (Op Φ (.blt x0 x1) ρ) μ Q X = Wp (evE Φ (.blt x0 x1) ρ) μ (fun d μ1 => Q d.fz μ1) X := w_op rfl
set_option autoImplicit true in
theorem o_lc {x0 x1 x2 x3} : Wp (Op Φ (.lc x0 x1 x2 x3) ρ) μ Q X = Wp (evE Φ (.lc x0 x1 x2 x3) ρ) μ (fun d μ1 => Q d.fz μ1) X := w_op rfl
set_option autoImplicit true in
theorem o_lc2 {x0 x1 x2 x3 x4 x5} : Wp (Op Φ (.lc2 x0 x1 x2 x3 x4 x5) ρ) μ Q X = Wp (evE Φ (.lc2 x0 x1 x2 x3 x4 x5) ρ) μ (fun d μ1 => Q d.fz μ1) X := w_op rfl
end
theorem asg_nm {i : Nat} {d : D} {ρ : Env} : asg (.nm i) d ρ = if i < ρ.length then some (ρ.set i (some d)) else none := by simp only [asg]
theorem asg_tup {ts : List T} {ds : List D} {ρ : Env} : asg (.tup ts) (.tup ds) ρ = if D.nbL ds then asgL ts ds ρ else none := by simp only [asg]
theorem asgL_nil {ρ : Env} : asgL [] [] ρ = some ρ := by simp only [asgL]
def asgK (ts : List T) (ds : List D) : Option Env → Option Env
  | some ρ' => asgL ts ds ρ'
  | none => none
theorem asgL_cons {t : T} {ts : List T} {d : D} {ds : List D} {ρ : Env} : asgL (t :: ts) (d :: ds) ρ = asgK ts ds (asg t d ρ) := by
  simp only [asgL]
  cases asg t d ρ <;> rfl
theorem asgK_s {ts : List T} {ds : List D} {ρ : Env} : asgK ts ds (some ρ) = asgL ts ds ρ := kp rfl
theorem inb_lst {b : Bool} {ds : List D} : (D.lst b ds).inb = D.nbL ds := kp rfl
theorem inb_dct {b : Bool} {ks : List Key} {ds : List D} : (D.dct b ks ds).inb = D.nbL ds := kp rfl
theorem ln0 : (0 ≤ LINE) = True := by simp [LINE]
theorem ln1 : (1 ≤ LINE) = True := by simp [LINE]
theorem ln2 : (2 ≤ LINE) = True := by simp [LINE]
theorem ln3 : (3 ≤ LINE) = True := by simp [LINE]
theorem ln4 : (4 ≤ LINE) = True := by simp [LINE]
theorem ln5 : (5 ≤ LINE) = True := by simp [LINE]
theorem ln6 : (6 ≤ LINE) = True := by simp [LINE]
theorem ln7 : (7 ≤ LINE) = True := by simp [LINE]
theorem ln8 : (8 ≤ LINE) = True := by simp [LINE]
/-- a for loop: I holds of what is done -/
def FlI (I : Env → Sto → Prop) (R : D → Sto → Prop) : Fl → Sto → Prop
  | .nx ρ, μ => I ρ μ
  | .cont ρ, μ => I ρ μ
  | .brk _, _ => False
  | .rt d, μ => R d μ
/-- what leaves the store -/
abbrev Pu (P : D → Prop) (μ : Sto) : D → Sto → Prop := fun d μ' => μ' = μ ∧ P d.fz
local macro_rules | `(tactic| simp_arith [$ls,*]) => `(tactic| simp only [wp_ret, wp_bad, wp_bind, wp_guard, wp_some, w_var, w_brw, w_non, w_bl, w_int, w_str, w_glob, w_opv, w_opb, w_bin, w_neg, w_not, w_and, w_or, w_andT, w_andF, w_orT, w_orF, w_cmp, w_chain, w_chT, w_chF, w_ife, w_ifT, w_ifF, w_tup, w_lst, w_dct0, w_dct1, w_idx, w_slc, w_rev, w_isi, w_call, w_blt, w_lc, w_bdy, w_bdyT, w_bdyF, w_nil, w_cons, w_oN, w_oS, w_cN, w_cS, w_iseq, w_irng1, w_irng2, w_ienum, w_zip, w_zipLL, w_rng, kn_nx, kn_rt, w_done, w_seq, w_asK, w_setT, w_setF, w_aug, w_app, w_put, w_rput, w_raug, w_expr, w_rt, w_retN, w_retMv, w_sif, w_sfT, w_sfF, w_fbd, w_for, w_while, w_raise, w_frz, w_pass, w_end, w_endN, w_add, w_sub, w_mul, w_fdiv, w_mod, w_addT, w_addL, w_eqi, w_nei, w_lti, w_lei, w_gti, w_gei, w_tbl, w_tin, w_tls, w_ixT, w_ixL, w_slL, w_slT, w_len, w_lenT, w_list, w_listT, w_tuple, w_inti, w_intb, w_abs, w_itL, w_itT, w_itLL, fnΦ, o_non, o_bl, o_int, o_str, o_glob, o_bin, o_neg, o_not, o_and, o_or, o_cmp, o_chain, o_ife, o_tup, o_lst, o_idx, o_slc, o_rev, o_isi, o_fld, o_isE, o_call, o_blt, o_lc, o_lc2, D.nb, D.nbL, D.fz, D.fzL, inb_lst, inb_dct, asg_nm, asg_tup, asgL_nil, asgL_cons, asgK_s, wipe, T.ix, T.ixL, List.append_nil, List.nil_append, List.cons_append, List.getElem?_cons_succ, List.getElem?_cons_zero, List.set_cons_succ, List.set_cons_zero, List.length_cons, List.length_nil, List.length_map, List.length_append, Nat.reduceAdd, Nat.reduceLT, Nat.zero_add, Nat.zero_lt_succ, Nat.reduceLeDiff, if_true, if_false, ite_true, ite_false, reduceIte, Bool.not_true, Bool.not_false, Bool.and_true, Bool.true_and, Bool.and_self, Bool.or_true, Bool.true_or, Bool.or_false, Bool.false_or, true_and, and_true, and_self, decide_true, decide_false, decide_eq_true_eq, ln0, ln1, ln2, ln3, ln4, ln5, ln6, ln7, ln8, Pu, FlI, $ls,*])
theorem nbL_of {P : D → Prop} (h : ∀ d, P d → d.nb = true ∧ d.fz = d) : ∀ {ds : List D}, (∀ x ∈ ds, P x) → D.nbL ds = true ∧ D.fzL ds = ds
  | [], _ => ⟨rfl, rfl⟩
  | d :: ds, hd => by
    have h1 := h d (hd d (List.mem_cons_self))
    have h2 := nbL_of h (ds := ds) (fun x hx => hd x (List.mem_cons_of_mem _ hx))
    exact ⟨by simp [D.nbL, h1.1, h2.1], by simp [D.fzL, h1.2, h2.2]⟩
theorem fzL_map {α : Type} (e : α → D) : ∀ as : List α, D.fzL (as.map e) = as.map (fun a => (e a).fz)
  | [] => rfl
  | a :: as => by simp [D.fzL, fzL_map e as]
theorem fzL_eq : ∀ as : List D, D.fzL as = as.map D.fz
  | [] => rfl
  | a :: as => by simp [D.fzL, fzL_eq as]
theorem nbL_eq : ∀ as : List D, D.nbL as = as.all D.nb
  | [] => rfl
  | a :: as => by simp [D.nbL, nbL_eq as]
theorem fzL_app (as bs : List D) : D.fzL (as ++ bs) = D.fzL as ++ D.fzL bs := by simp [fzL_eq]
theorem nbL_app (as bs : List D) : D.nbL (as ++ bs) = (D.nbL as && D.nbL bs) := by simp [nbL_eq]
theorem fzL_ints (r : List Int) : D.fzL (r.map .int) = r.map .int := by rw [fzL_map]; rfl
theorem nbL_ints (r : List Int) : D.nbL (r.map .int) = true := by rw [nbL_eq]; simp [D.nb]
theorem fzL_len (as : List D) : (D.fzL as).length = as.length := by simp [fzL_eq]

inductive F2 (P : D → D → Prop) : List D → List D → Prop where
  | nil : F2 P [] []
  | cons {x y : D} {xs ys : List D} (h : P x y) (t : F2 P xs ys) : F2 P (x :: xs) (y :: ys)
/-! ### loops -/
section
variable {μ : Sto} {X : Str → List D → Sto → Prop}
theorem wp_mapG {f : D → M (Option D)} (J : Sto → Prop) (P : D → Prop) {X : Str → List D → Sto → Prop} : ∀ (xs acc : List D) (μ : Sto) (Q : List D → Sto → Prop), acc.length + xs.length ≤ LINE → J μ →
    (∀ x ∈ xs, ∀ μ, J μ → Wp (f x) μ (fun o μ' => J μ' ∧ ∀ y, o = some y → P y) X) →
    (∀ ys μ', J μ' → ys.length ≤ xs.length → (∀ y ∈ ys, P y) → Q (acc ++ ys) μ') → Wp (mapC f xs acc) μ Q X
  | [], acc, μ, Q, hl, hj, hf, hq => by
    have := hq [] μ hj (Nat.le_refl _) (by simp)
    simpa [mapC, wp_ret] using this
  | x :: xs, acc, μ, Q, hl, hj, hf, hq => by
    rw [mapC, wp_bind]
    refine (hf x List.mem_cons_self μ hj).mono ?_
    rintro (_ | y) μ1 ⟨hj1, hy⟩
    · exact wp_mapG J P xs acc μ1 Q (by simp at hl; omega) hj1 (fun z hz => hf z (List.mem_cons_of_mem _ hz)) (fun ys μ' h1 h2 h3 => hq ys μ' h1 (by simp; omega) h3)
    · simp only [wp_guard, decide_eq_true_eq]
      refine ⟨by simp at hl; omega, ?_⟩
      refine wp_mapG J P xs (acc ++ [y]) μ1 Q (by simp at hl ⊢; omega) hj1 (fun z hz => hf z (List.mem_cons_of_mem _ hz)) (fun ys μ' h1 h2 h3 => ?_)
      have := hq (y :: ys) μ' h1 (by simp; omega) (by simpa using ⟨hy y rfl, h3⟩)
      simpa using this
/-- a comprehension without a condition: each part gives one -/
theorem wp_mapA {f : D → M (Option D)} (J : Sto → Prop) (P : D → D → Prop) {X : Str → List D → Sto → Prop} : ∀ (xs acc : List D) (μ : Sto) (Q : List D → Sto → Prop), acc.length + xs.length ≤ LINE → J μ →
    (∀ x ∈ xs, ∀ μ, J μ → Wp (f x) μ (fun o μ' => J μ' ∧ ∃ y, o = some y ∧ P x y) X) →
    (∀ ys μ', J μ' → F2 P xs ys → Q (acc ++ ys) μ') → Wp (mapC f xs acc) μ Q X
  | [], acc, μ, Q, hl, hj, hf, hq => by
    have := hq [] μ hj F2.nil
    simpa [mapC, wp_ret] using this
  | x :: xs, acc, μ, Q, hl, hj, hf, hq => by
    rw [mapC, wp_bind]
    refine (hf x List.mem_cons_self μ hj).mono ?_
    rintro _ μ1 ⟨hj1, y, rfl, hy⟩
    simp only [wp_guard, decide_eq_true_eq]
    refine ⟨by simp at hl; omega, ?_⟩
    refine wp_mapA J P xs (acc ++ [y]) μ1 Q (by simp at hl ⊢; omega) hj1 (fun z hz => hf z (List.mem_cons_of_mem _ hz)) (fun ys μ' h1 h2 => ?_)
    have := hq (y :: ys) μ' h1 (F2.cons hy h2)
    simpa using this
theorem forall2_len {P : D → D → Prop} : ∀ {xs ys : List D}, F2 P xs ys → ys.length = xs.length
  | _, _, .nil => rfl
  | _, _, .cons _ h => by simp [forall2_len h]
theorem forall2_mem {P : D → D → Prop} : ∀ {xs ys : List D}, F2 P xs ys → ∀ y ∈ ys, ∃ x ∈ xs, P x y
  | _, _, .cons h t, y, hy => by
    rcases List.mem_cons.1 hy with rfl | hy
    · exact ⟨_, List.mem_cons_self, h⟩
    · obtain ⟨x, hx, hp⟩ := forall2_mem t y hy
      exact ⟨x, List.mem_cons_of_mem _ hx, hp⟩
/-- each part gives a thing that is P when frozen; the store stays -/
theorem wp_mapP {f : D → M (Option D)} (P : D → Prop) {xs : List D} {Q : List D → Sto → Prop} (hl : xs.length ≤ LINE)
    (hf : ∀ x ∈ xs, Wp (f x) μ (fun o μ' => μ' = μ ∧ ∃ y, o = some y ∧ P y.fz) X)
    (hq : ∀ ys, ys.length = xs.length → (∀ y ∈ D.fzL ys, P y) → Q ys μ) : Wp (mapC f xs []) μ Q X := by
  refine wp_mapA (fun μ' => μ' = μ) (fun _ y => P y.fz) xs [] μ Q (by simpa using hl) rfl ?_ ?_
  · rintro x hx _ rfl; exact hf x hx
  · rintro ys _ rfl h
    refine hq ys (forall2_len h) ?_
    intro y hy
    rw [fzL_eq] at hy
    obtain ⟨z, hz, rfl⟩ := List.mem_map.1 hy
    obtain ⟨x, _, hp⟩ := forall2_mem h z hz
    exact hp
/-- the like with a store that moves -/
theorem wp_mapJ {f : D → M (Option D)} (J : Sto → Prop) (P : D → Prop) {xs : List D} {Q : List D → Sto → Prop} (hj : J μ) (hl : xs.length ≤ LINE)
    (hf : ∀ x ∈ xs, ∀ μ, J μ → Wp (f x) μ (fun o μ' => J μ' ∧ ∃ y, o = some y ∧ P y.fz) X)
    (hq : ∀ ys μ', J μ' → ys.length = xs.length → (∀ y ∈ D.fzL ys, P y) → Q ys μ') : Wp (mapC f xs []) μ Q X := by
  refine wp_mapA J (fun _ y => P y.fz) xs [] μ Q (by simpa using hl) hj hf ?_
  intro ys μ' hj h
  refine hq ys μ' hj (forall2_len h) ?_
  intro y hy
  rw [fzL_eq] at hy
  obtain ⟨z, hz, rfl⟩ := List.mem_map.1 hy
  obtain ⟨x, _, hp⟩ := forall2_mem h z hz
  exact hp
/-- each part gives just this; the store stays -/
theorem wp_mapV {α : Type} {f : D → M (Option D)} (e v : α → D) : ∀ (as : List α) (acc : List D) (Q : List D → Sto → Prop), acc.length + as.length ≤ LINE →
    (∀ a ∈ as, Wp (f (e a)) μ (fun o μ' => μ' = μ ∧ o = some (v a)) X) →
    Q (acc ++ as.map v) μ → Wp (mapC f (as.map e) acc) μ Q X
  | [], acc, Q, hl, hf, hq => by simpa [mapC, wp_ret] using hq
  | a :: as, acc, Q, hl, hf, hq => by
    rw [List.map_cons, mapC, wp_bind]
    refine (hf a List.mem_cons_self).mono ?_
    intro o μ1 h1
    rw [h1.1, h1.2]
    simp only [wp_guard, decide_eq_true_eq]
    refine ⟨by simp at hl; omega, wp_mapV e v as _ Q (by simp at hl ⊢; omega) (fun z hz => hf z (List.mem_cons_of_mem _ hz)) ?_⟩
    simpa using hq
/-- a filter -/
theorem wp_mapF {α : Type} {f : D → M (Option D)} (e : α → D) (c : α → Bool) : ∀ (as : List α) (acc : List D) (Q : List D → Sto → Prop), acc.length + as.length ≤ LINE →
    (∀ a ∈ as, Wp (f (e a)) μ (fun o μ' => μ' = μ ∧ o = if c a then some (e a) else none) X) →
    Q (acc ++ (as.filter c).map e) μ → Wp (mapC f (as.map e) acc) μ Q X
  | [], acc, Q, hl, hf, hq => by simpa [mapC, wp_ret] using hq
  | a :: as, acc, Q, hl, hf, hq => by
    rw [List.map_cons, mapC, wp_bind]
    refine (hf a List.mem_cons_self).mono ?_
    intro o μ1 h1
    rw [h1.1, h1.2]
    cases hc : c a with
    | false =>
      simp only [Bool.false_eq_true, if_false]
      exact wp_mapF e c as acc Q (by simp at hl; omega) (fun z hz => hf z (List.mem_cons_of_mem _ hz)) (by simpa [hc] using hq)
    | true =>
      simp only [if_true, wp_guard, decide_eq_true_eq]
      refine ⟨by simp at hl; omega, wp_mapF e c as _ Q (by simp at hl ⊢; omega) (fun z hz => hf z (List.mem_cons_of_mem _ hz)) ?_⟩
      simpa [hc] using hq
theorem wp_for {f : D → Env → M Fl} (R : D → Sto → Prop) {X : Str → List D → Sto → Prop} {Q : Fl → Sto → Prop} : ∀ (xs : List D) (I : Nat → Env → Sto → Prop) (ρ : Env) (μ : Sto), I 0 ρ μ →
    (∀ i (h : i < xs.length) ρ μ, I i ρ μ → Wp (f xs[i] ρ) μ (FlI (I (i + 1)) R) X) →
    (∀ ρ μ, I xs.length ρ μ → Q (.nx ρ) μ) → (∀ d μ, R d μ → Q (.rt d) μ) → Wp (forL f xs ρ) μ Q X
  | [], I, ρ, μ, h0, hf, hn, hr => by rw [forL, wp_ret]; exact hn _ _ h0
  | x :: xs, I, ρ, μ, h0, hf, hn, hr => by
    rw [forL, wp_bind]
    have h1 := hf 0 (by simp) ρ μ h0
    simp only [List.getElem_cons_zero] at h1
    have rc : ∀ ρ' μ', I 1 ρ' μ' → Wp (forL f xs ρ') μ' Q X := fun ρ' μ' hi => wp_for R xs (fun i => I (i + 1)) ρ' μ' hi (fun i h ρ μ hI => by
      have := hf (i + 1) (by simp; omega) ρ μ hI
      simpa using this) (fun ρ μ h => hn ρ μ (by simpa using h)) hr
    refine h1.mono ?_
    intro fl μ' hfl
    cases fl with
    | nx ρ' => exact rc ρ' μ' hfl
    | cont ρ' => exact rc ρ' μ' hfl
    | brk _ => exact hfl.elim
    | rt d => rw [wp_ret]; exact hr d μ' hfl
end

/-! ### shapes -/
def Up (n : Nat) (r : List Int) : Prop := r.Pairwise (· < ·) ∧ ∀ x ∈ r, 0 ≤ x ∧ x < n
def Rw (n : Nat) (d : D) : Prop := ∃ r : List Int, d = .lst false (r.map .int) ∧ Up n r
def LP (P : D → Prop) (k : Nat) (d : D) : Prop := ∃ ds, d = .lst false ds ∧ ds.length = k ∧ ∀ x ∈ ds, P x
def Tab (n : Nat) : D → Prop := LP (Rw n) n
def Dr (n : Nat) : D := .lst false (List.replicate n (.lst false []))
theorem Dr_fz (n : Nat) : (Dr n).nb = true ∧ (Dr n).fz = Dr n := by
  have h2 : D.nbL (List.replicate n (.lst false [])) = true ∧ D.fzL (List.replicate n (.lst false [])) = List.replicate n (.lst false []) := nbL_of (P := fun d => d = .lst false []) (by rintro d rfl; exact ⟨rfl, rfl⟩) (by intro x hx; exact (List.mem_replicate.1 hx).2)
  simp [Dr, D.nb, D.fz, h2.1, h2.2]
theorem Tab_Dr (n : Nat) : Tab n (Dr n) := ⟨_, rfl, by simp, by
  intro x hx
  rw [(List.mem_replicate.1 hx).2]
  exact ⟨[], rfl, by simp [Up]⟩⟩
/-- a row of the goes: the first column is empty -/
def Goe (n s : Nat) (d : D) : Prop := ∃ cs, d = .lst false (Dr n :: cs) ∧ cs.length = s ∧ ∀ x ∈ cs, Tab n x
def Mch (n s : Nat) (d : D) : Prop := ∃ a b, d = .tup [a, b] ∧ LP (Tab n) (s + 1) a ∧ LP (Goe n s) (s + 1) b
theorem up_len {r : List Int} : ∀ {a b : Int}, r.Pairwise (· < ·) → (∀ x ∈ r, a ≤ x ∧ x < b) → r.length ≤ (b - a).toNat := by
  induction r with
  | nil => intros; simp
  | cons x r ih =>
    intro a b hp hm
    have h1 := hm x List.mem_cons_self
    have h2 := ih (a := x + 1) (b := b) (List.pairwise_cons.1 hp).2 (fun y hy => ⟨by have := (List.pairwise_cons.1 hp).1 y hy; omega, (hm y (List.mem_cons_of_mem _ hy)).2⟩)
    simp only [List.length_cons]; omega
theorem Up.len {n : Nat} {r : List Int} (h : Up n r) : r.length ≤ n := by
  have := up_len (a := 0) (b := n) h.1 h.2
  omega
theorem Rw.fz {n : Nat} (d : D) (h : Rw n d) : d.nb = true ∧ d.fz = d := by
  obtain ⟨r, rfl, _⟩ := h
  simp [D.nb, D.fz, fzL_ints, nbL_ints]
theorem LP.fz {P : D → Prop} (h : ∀ d, P d → d.nb = true ∧ d.fz = d) {k : Nat} (d : D) (hd : LP P k d) : d.nb = true ∧ d.fz = d := by
  obtain ⟨ds, rfl, _, hp⟩ := hd
  have := nbL_of h hp
  simp [D.nb, D.fz, this.1, this.2]
theorem Tab.fz {n : Nat} (d : D) (h : Tab n d) : d.nb = true ∧ d.fz = d := LP.fz Rw.fz d h
theorem Goe.fz {n s : Nat} (d : D) (h : Goe n s d) : d.nb = true ∧ d.fz = d := by
  obtain ⟨cs, rfl, _, hp⟩ := h
  have h1 := nbL_of Tab.fz hp
  have h2 := Dr_fz n
  simp [D.nb, D.nbL, D.fz, D.fzL, h1.1, h1.2, h2.1, h2.2]
theorem Mch.fz {n s : Nat} (d : D) (h : Mch n s d) : d.nb = true ∧ d.fz = d := by
  obtain ⟨a, b, rfl, ha, hb⟩ := h
  have h1 := LP.fz Tab.fz a ha
  have h2 := LP.fz Goe.fz b hb
  simp [D.nb, D.nbL, D.fz, D.fzL, h1.1, h1.2, h2.1, h2.2]
theorem mem_zipD : ∀ {xs ys : List D} {z : D}, z ∈ zipD xs ys → ∃ x ∈ xs, ∃ y ∈ ys, z = .tup [x, y]
  | [], _, _, h => by simp [zipD] at h
  | _ :: _, [], _, h => by simp [zipD] at h
  | x :: xs, y :: ys, z, h => by
    rw [zipD] at h
    rcases List.mem_cons.1 h with rfl | h
    · exact ⟨x, List.mem_cons_self, y, List.mem_cons_self, rfl⟩
    · obtain ⟨a, ha, b, hb, e⟩ := mem_zipD h
      exact ⟨a, List.mem_cons_of_mem _ ha, b, List.mem_cons_of_mem _ hb, e⟩
theorem len_zipD : ∀ {xs ys : List D}, (zipD xs ys).length = min xs.length ys.length
  | [], _ => by simp [zipD]
  | _ :: _, [] => by simp [zipD]
  | x :: xs, y :: ys => by rw [zipD, List.length_cons, len_zipD]; simp [Nat.succ_min_succ]
/-! Q2 -/
theorem line_eq : LINE = 16777216 := rfl
theorem atI_nat {α : Type} (xs : List α) (j : Nat) : L2.atI xs (j : Int) = xs[j]? := by
  unfold L2.atI L2.ixN
  rw [if_pos (by omega)]
  split
  · simp
  · rename_i h
    simp only [Option.bind]
    rw [List.getElem?_eq_none (by omega)]
theorem atI_0 {α : Type} (a : α) (as : List α) : L2.atI (a :: as) 0 = some a := by
  have := atI_nat (a :: as) 0
  simpa using this
theorem atI_1 {α : Type} (a b : α) (as : List α) : L2.atI (a :: b :: as) 1 = some b := by
  have := atI_nat (a :: b :: as) 1
  simpa using this
theorem atI_2 {α : Type} (a b c : α) (as : List α) : L2.atI (a :: b :: c :: as) 2 = some c := by
  have := atI_nat (a :: b :: c :: as) 2
  simpa using this
theorem cut_1 (ds : List D) : cutD ds (some 1) none = ds.tail := by
  unfold cutD
  cases ds with
  | nil => simp
  | cons d ds => simp [HT.sIx]
theorem mem_cut {ds : List D} {l h : Option Int} {x : D} (hx : x ∈ cutD ds l h) : x ∈ ds := List.mem_of_mem_drop (List.mem_of_mem_take hx)
theorem len_cut (ds : List D) (l h : Option Int) : (cutD ds l h).length ≤ ds.length := by
  unfold cutD; simp; omega
theorem w_notIn {μ : Sto} {Q : D → Sto → Prop} {X : Str → List D → Sto → Prop} {x : Int} {b : Bool} {r : List Int} : Wp (cmpD .notIn (.int x) (.lst b (r.map .int))) μ Q X = Q (.bl (!decide (x ∈ r))) μ := by
  have h : inD (.int x) (.lst b (r.map .int)) = some (decide (x ∈ r)) := by
    have h2 : L2.inV (L2.V.int x) ((r.map D.int).map D.toV) = decide (x ∈ r) := by
      induction r with
      | nil => rfl
      | cons y r ih =>
        simp only [List.map_cons, L2.inV, List.any_cons] at ih ⊢
        rw [ih]
        by_cases h : y = x
        · subst h; simp [D.toV, L2.eqV]
        · have : ¬ x = y := fun e => h e.symm
          simp [D.toV, L2.eqV, h, this]
    simp only [inD, D.flat, Bool.true_and, D.toV, h2]
    rw [if_pos (by simp [D.flat])]
  simp only [cmpD, h, Option.map, wp_some]
theorem dInts_map : ∀ r : List Int, dInts (r.map .int) = some r
  | [] => rfl
  | x :: r => by simp [dInts, dInts_map r]
theorem keyInts_map : ∀ r : List Int, keyInts (r.map .inl) = some r
  | [] => rfl
  | x :: r => by simp [keyInts, keyInts_map r]
theorem w_sorted {μ : Sto} {Q : D → Sto → Prop} {X : Str → List D → Sto → Prop} {b : Bool} {r : List Int} : Wp (bltD .sorted (.lst b (r.map .int))) μ Q X = Q (.lst true ((isort r).map .int)) μ := by
  simp only [bltD, dInts_map, Option.map, wp_some]
theorem w_sortedD {μ : Sto} {Q : D → Sto → Prop} {X : Str → List D → Sto → Prop} {r : List Int} {vs : List D} : Wp (bltD .sorted (.dct true (r.map .inl) vs)) μ Q X = (r.length < 64 ∧ Q (.lst true ((isort r).map .int)) μ) := by
  simp only [bltD, keyInts_map, Option.map, wp_some, wp_guard, List.length_map, decide_eq_true_eq]
theorem mem_ins (x y : Int) : ∀ r, y ∈ ins x r ↔ y = x ∨ y ∈ r
  | [] => by simp [ins]
  | z :: r => by
    unfold ins
    split
    · simp
    · simp [mem_ins x y r]; constructor <;> (rintro (h | h | h) <;> simp [h])
theorem mem_isort (y : Int) : ∀ r, y ∈ isort r ↔ y ∈ r
  | [] => by simp [isort]
  | x :: r => by simp [isort, mem_ins, mem_isort y r]
theorem ins_up (x : Int) : ∀ r : List Int, r.Pairwise (· < ·) → x ∉ r → (ins x r).Pairwise (· < ·)
  | [], _, _ => by simp [ins]
  | z :: r, h, hx => by
    have hz := List.pairwise_cons.1 h
    unfold ins
    split
    · rename_i hle
      have hne : x ≠ z := fun e => hx (by simp [e])
      refine List.pairwise_cons.2 ⟨?_, h⟩
      intro y hy
      rcases List.mem_cons.1 hy with rfl | hy
      · omega
      · have := hz.1 y hy; omega
    · refine List.pairwise_cons.2 ⟨?_, ins_up x r hz.2 (fun e => hx (List.mem_cons_of_mem _ e))⟩
      intro y hy
      rcases (mem_ins x y r).1 hy with rfl | hy
      · omega
      · exact hz.1 y hy
theorem isort_up : ∀ r : List Int, r.Nodup → (isort r).Pairwise (· < ·)
  | [], _ => by simp [isort]
  | x :: r, h => by
    have hx := List.nodup_cons.1 h
    exact ins_up x _ (isort_up r hx.2) (by rw [mem_isort]; exact hx.1)
theorem up_isort {n : Nat} {r : List Int} (h : r.Nodup) (hm : ∀ x ∈ r, 0 ≤ x ∧ x < n) : Up n (isort r) := ⟨isort_up r h, fun x hx => hm x ((mem_isort x r).1 hx)⟩
theorem Up.nodup {n : Nat} {r : List Int} (h : Up n r) : r.Nodup := h.1.imp (fun h => by omega)
/-- frozen results, one by one -/
theorem wp_mapE {μ : Sto} {X : Str → List D → Sto → Prop} {f : D → M (Option D)} (g : D → D) {xs : List D} {Q : List D → Sto → Prop} (hl : xs.length ≤ LINE)
    (hf : ∀ x ∈ xs, Wp (f x) μ (fun o μ' => μ' = μ ∧ ∃ y, o = some y ∧ y.fz = g x) X)
    (hq : ∀ ys, D.fzL ys = xs.map g → Q ys μ) : Wp (mapC f xs []) μ Q X := by
  refine wp_mapA (fun μ' => μ' = μ) (fun x y => y.fz = g x) xs [] μ Q (by simpa using hl) rfl ?_ ?_
  · intro x hx μ1 h1; rw [h1]; exact hf x hx
  · intro ys μ1 h1 h
    rw [h1]
    refine hq ys ?_
    clear hq hf hl
    induction h with
    | nil => rfl
    | cons h t ih => simp [D.fzL, h, ih]
section
variable {μ : Sto} {X : Str → List D → Sto → Prop} {n : Nat}
end
/-! Q3 -/
def DK (ks : List Int) : D := .dct true (ks.map .inl) (List.replicate ks.length (.bl true))
theorem kget_DK (x : Int) : ∀ ks : List Int, (kget (ks.map .inl) (List.replicate ks.length (.bl true)) (.inl x)).isSome = decide (x ∈ ks)
  | [] => by simp [kget]
  | y :: ks => by
    simp only [List.map_cons, List.length_cons, List.replicate_succ, kget]
    by_cases h : y = x
    · subst h; simp
    · have h' : ¬ x = y := fun e => h e.symm
      rw [if_neg (by simpa using h), kget_DK x ks]
      simp [h']
theorem krep_DK (x : Int) : ∀ ks : List Int, krep (ks.map .inl) (List.replicate ks.length (.bl true)) (.inl x) (.bl true) = List.replicate ks.length (.bl true)
  | [] => by simp [krep]
  | y :: ks => by
    simp only [List.map_cons, List.length_cons, List.replicate_succ, krep]
    rw [krep_DK x ks]
    simp
theorem any_DK (x : Int) : ∀ ks : List Int, (ks.map (Sum.inl : Int → Key)).any (fun k => decide (k = .inl x)) = decide (x ∈ ks)
  | [] => by simp
  | y :: ks => by
    simp only [List.map_cons, List.any_cons, any_DK x ks]
    by_cases h : y = x
    · subst h; simp
    · have h' : ¬ x = y := fun e => h e.symm
      simp [h, h']
def addK (x : Int) (ks : List Int) : List Int := if x ∈ ks then ks else ks ++ [x]
theorem kput_DK (x : Int) (ks : List Int) : D.dct true (kput (ks.map .inl) (List.replicate ks.length (.bl true)) (.inl x) (.bl true)).1 (kput (ks.map .inl) (List.replicate ks.length (.bl true)) (.inl x) (.bl true)).2 = DK (addK x ks) := by
  unfold kput addK DK
  rw [any_DK, krep_DK]
  by_cases h : x ∈ ks
  · simp [h]
  · simp [h, List.replicate_succ']
section
variable {μ : Sto} {X : Str → List D → Sto → Prop} {n : Nat} {Q : D → Sto → Prop}
theorem w_putDK {x : Int} {ks : List Int} : Wp (putD (DK ks) (.int x) (.bl true)) μ Q X = (ks.length < LINE ∧ Q (DK (addK x ks)) μ) := by
  rw [← kput_DK]
  simp only [DK, putD, keyOf, wp_guard, wp_ret, List.length_map, decide_eq_true_eq]
theorem w_notInDK {x : Int} {ks : List Int} : Wp (cmpD .notIn (.int x) (DK ks)) μ Q X = Q (.bl (!decide (x ∈ ks))) μ := by
  simp only [DK, cmpD, inD, keyOf, Option.map, kget_DK, wp_some]
theorem inb_DK {ks : List Int} : (DK ks).inb = true := by
  simp [DK, D.inb, nbL_eq, D.nb]
theorem w_sortedDK {ks : List Int} : Wp (bltD .sorted (DK ks)) μ Q X = (ks.length < 64 ∧ Q (.lst true ((isort ks).map .int)) μ) := w_sortedD
end
def NK (n : Nat) (ks : List Int) : Prop := ks.Nodup ∧ ∀ x ∈ ks, 0 ≤ x ∧ x < n
theorem len_ins (x : Int) : ∀ r, (ins x r).length = r.length + 1
  | [] => rfl
  | y :: r => by unfold ins; split <;> simp [len_ins x r]
theorem len_isort : ∀ r, (isort r).length = r.length
  | [] => rfl
  | x :: r => by simp [isort, len_ins, len_isort r]
theorem NK.up {n : Nat} {ks : List Int} (h : NK n ks) : Up n (isort ks) := up_isort h.1 h.2
theorem NK.len {n : Nat} {ks : List Int} (h : NK n ks) : ks.length ≤ n := by
  have := h.up.len
  rwa [len_isort] at this
theorem NK.add {n : Nat} {ks : List Int} {x : Int} (h : NK n ks) (hx : 0 ≤ x ∧ x < n) : NK n (addK x ks) := by
  unfold addK
  split
  · exact h
  · rename_i hn
    refine ⟨?_, ?_⟩
    · rw [List.nodup_append]
      refine ⟨h.1, by simp, ?_⟩
      intro a ha b hb e
      simp at hb
      subst hb; subst e
      exact hn ha
    · intro y hy
      rcases List.mem_append.1 hy with h' | h'
      · exact h.2 y h'
      · simp at h'; subst h'; exact hx
theorem wp_whl {X : Str → List D → Sto → Prop} {c : Env → M Bool} {f : Env → M Fl} {Q : Fl → Sto → Prop} (I : Nat → Env → Sto → Prop) (R : D → Sto → Prop)
    (hR : ∀ d μ, R d μ → Q (.rt d) μ)
    (hs : ∀ m ρ μ, I m ρ μ → Wp (c ρ) μ (fun b μ' => (b = false → Q (.nx ρ) μ') ∧ (b = true → ∃ m', m = m' + 1 ∧ Wp (f ρ) μ' (FlI (I m') R) X)) X) :
    ∀ (n m : Nat) (ρ : Env) (μ : Sto), m < n → I m ρ μ → Wp (whl c f n ρ) μ Q X
  | 0, m, ρ, μ, h, _ => by omega
  | n + 1, m, ρ, μ, h, hi => by
    rw [whl, wp_bind]
    refine (hs m ρ μ hi).mono ?_
    intro b μ1 hb
    cases b with
    | false => rw [wp_ret]; exact hb.1 rfl
    | true =>
      obtain ⟨m', rfl, hw⟩ := hb.2 rfl
      simp only [wp_bind]
      refine hw.mono ?_
      intro fl μ2 hfl
      cases fl with
      | nx ρ' => exact wp_whl I R hR hs n m' ρ' μ2 (by omega) hfl
      | cont ρ' => exact wp_whl I R hR hs n m' ρ' μ2 (by omega) hfl
      | brk _ => exact hfl.elim
      | rt d => rw [wp_ret]; exact hR d μ2 hfl
theorem rw_get {n : Nat} {ds : List D} (hl : ds.length = n) {x : Int} (hx : 0 ≤ x ∧ x < n) : ∃ j : Nat, x = j ∧ ∃ h : j < ds.length, L2.atI ds x = some ds[j] := by
  refine ⟨x.toNat, by omega, by omega, ?_⟩
  have h := atI_nat ds x.toNat
  rw [show ((x.toNat : Nat) : Int) = x by omega] at h
  rw [h, List.getElem?_eq_getElem]
section
variable {μ : Sto} {X : Str → List D → Sto → Prop} {n : Nat}
theorem mem_num : ∀ {ds : List D} {m : Nat} {z : D}, z ∈ num m ds → ∃ i, ∃ h : i < ds.length, z = .tup [.int ((m + i : Nat) : Int), ds[i]]
  | [], _, _, h => by simp [num] at h
  | d :: ds, m, z, h => by
    rw [num] at h
    rcases List.mem_cons.1 h with rfl | h
    · exact ⟨0, by simp, rfl⟩
    · obtain ⟨i, hi, e⟩ := mem_num h
      exact ⟨i + 1, by simp; omega, by rw [e]; simp; omega⟩
theorem len_num : ∀ {ds : List D} {m : Nat}, (num m ds).length = ds.length
  | [], _ => rfl
  | d :: ds, m => by rw [num, List.length_cons, len_num]; rfl
end
/-! Q4 -/
abbrev Row := List Int
abbrev Tb := List Row
def eI (i : Int) : D := .int i
def eL {α : Type} (e : α → D) (as : List α) : D := .lst false (as.map e)
def eR : Row → D := eL D.int
def eT : Tb → D := eL eR
def eS : List Tb → D := eL eT
def eG : List (List Tb) → D := eL eS
abbrev Mc := List Tb × List (List Tb)
def eM (m : Mc) : D := .tup [eS m.1, eG m.2]
/-- sizes -/
def zL {α : Type} (p : α → Prop) (as : List α) : Prop := as.length ≤ 200 ∧ ∀ a ∈ as, p a
def zR : Row → Prop := zL fun _ => True
def zT : Tb → Prop := zL zR
def zS : List Tb → Prop := zL zT
def zG : List (List Tb) → Prop := zL zS
def zM (m : Mc) : Prop := zS m.1 ∧ zG m.2
def Frz {α : Type} (e : α → D) : Prop := ∀ a, (e a).nb = true ∧ (e a).fz = e a
theorem frzI : Frz D.int := fun _ => ⟨rfl, rfl⟩
theorem nbL_map {α : Type} {e : α → D} (h : Frz e) (as : List α) : D.nbL (as.map e) = true ∧ D.fzL (as.map e) = as.map e :=
  nbL_of (P := fun d => ∃ a, d = e a) (by rintro d ⟨a, rfl⟩; exact h a) (by intro x hx; obtain ⟨a, _, rfl⟩ := List.mem_map.1 hx; exact ⟨a, rfl⟩)
theorem frzL {α : Type} {e : α → D} (h : Frz e) : Frz (eL e) := fun as => by
  have := nbL_map h as
  simp [eL, D.nb, D.fz, this.1, this.2]
theorem frzR : Frz eR := frzL frzI
theorem frzT : Frz eT := frzL frzR
theorem frzS : Frz eS := frzL frzT
theorem frzG : Frz eG := frzL frzS
theorem frzM : Frz eM := fun m => by
  have h1 := frzS m.1
  have h2 := frzG m.2
  simp [eM, D.nb, D.nbL, D.fz, D.fzL, h1.1, h1.2, h2.1, h2.2]
/-! equality of data -/
structure Cod {α : Type} (e : α → D) (f : α → PyData) (m : Nat) : Prop where
  toP : ∀ a, (e a).toP = some (f a)
  lay : ∀ a, (f a).canLay0 = true
  dep : ∀ a, (f a).depth ≤ m
  eq : ∀ a b, PyData.eqv (f a) (f b) = true ↔ a = b
theorem codI : Cod D.int PyData.int 0 where
  toP := fun _ => rfl
  lay := fun _ => rfl
  dep := fun _ => by simp [PyData.depth]
  eq := fun a b => by simp [PyData.eqv]
theorem toPL_map {α : Type} {e : α → D} {f : α → PyData} (h : ∀ a, (e a).toP = some (f a)) : ∀ as : List α, D.toPL (as.map e) = some (as.map f)
  | [] => rfl
  | a :: as => by simp [D.toPL, h a, toPL_map h as]
theorem layL_map {α : Type} {f : α → PyData} (h : ∀ a, (f a).canLay0 = true) : ∀ as : List α, PyData.canLayAll0 (as.map f) = true
  | [] => rfl
  | a :: as => by simp [PyData.canLayAll0, h a, layL_map h as]
theorem depL_map {α : Type} {f : α → PyData} {m : Nat} (h : ∀ a, (f a).depth ≤ m) : ∀ as : List α, PyData.depthAll (as.map f) ≤ m
  | [] => by simp [PyData.depthAll]
  | a :: as => by have := h a; have := depL_map h as; simp [PyData.depthAll]; omega
theorem eqvL_map {α : Type} {f : α → PyData} (h : ∀ a b, PyData.eqv (f a) (f b) = true ↔ a = b) : ∀ as bs : List α, PyData.eqvAll (as.map f) (bs.map f) = true ↔ as = bs
  | [], [] => by simp [PyData.eqvAll]
  | [], _ :: _ => by simp [PyData.eqvAll]
  | _ :: _, [] => by simp [PyData.eqvAll]
  | a :: as, b :: bs => by simp [PyData.eqvAll, h a b, eqvL_map h as bs]
theorem codL {α : Type} {e : α → D} {f : α → PyData} {m : Nat} (h : Cod e f m) : Cod (eL e) (fun as => .list (as.map f)) (m + 1) where
  toP := fun as => by simp [eL, D.toP, toPL_map h.toP]
  lay := fun as => by simp [PyData.canLay0, layL_map h.lay]
  dep := fun as => by have := depL_map h.dep as; simp [PyData.depth]; omega
  eq := fun as bs => by simp only [PyData.eqv]; exact eqvL_map h.eq as bs
def pL {α : Type} (f : α → PyData) (as : List α) : PyData := .list (as.map f)
def pR : Row → PyData := pL .int
def pT : Tb → PyData := pL pR
def pS : List Tb → PyData := pL pT
def pG : List (List Tb) → PyData := pL pS
theorem codR : Cod eR pR 1 := codL codI
theorem codT : Cod eT pT 2 := codL codR
theorem codS : Cod eS pS 3 := codL codT
theorem codG : Cod eG pG 4 := codL codS
theorem codM : Cod eM (fun m => .tuple [pS m.1, pG m.2]) 5 where
  toP := fun m => by simp only [eM, D.toP, D.toPL, codS.toP, codG.toP]; rfl
  lay := fun m => by
    have h1 := codS.lay m.1
    have h2 := codG.lay m.2
    simp only [PyData.canLay0, PyData.canLayAll0, h1, h2, Bool.and_self]
  dep := fun m => by
    have h1 := codS.dep m.1
    have h2 := codG.dep m.2
    simp only [PyData.depth, PyData.depthAll]
    omega
  eq := fun m l => by
    have h1 := codS.eq m.1 l.1
    have h2 := codG.eq m.2 l.2
    simp only [PyData.eqv, PyData.eqvAll, Bool.and_true, Bool.and_eq_true]
    rw [h1, h2]
    exact ⟨fun h => Prod.ext h.1 h.2, fun h => by subst h; exact ⟨rfl, rfl⟩⟩
theorem Cod.eqD {α : Type} [DecidableEq α] {e : α → D} {f : α → PyData} {m : Nat} (h : Cod e f m) (hm : m ≤ 64) (a b : α) : D.eqD (e a) (e b) = some (decide (a = b)) := by
  have h1 : SeqAt.shaped (f a) = true := by simp [SeqAt.shaped, h.lay]; have := h.dep a; omega
  have h2 : SeqAt.shaped (f b) = true := by simp [SeqAt.shaped, h.lay]; have := h.dep b; omega
  simp only [D.eqD, h.toP, h1, h2, Bool.and_self, if_true]
  congr 1
  rw [Bool.eq_iff_iff, h.eq, decide_eq_true_eq]
section
variable {μ : Sto} {X : Str → List D → Sto → Prop} {Q : D → Sto → Prop}
theorem w_neT {t u : Tb} : Wp (cmpD .ne (eT t) (eT u)) μ Q X = Q (.bl (!decide (t = u))) μ := by
  simp only [cmpD, codT.eqD (by omega), Option.map, wp_some]
theorem w_eqM {t : Mc} : Wp (cmpD .eq (eM t) (eM t)) μ Q X = Q (.bl true) μ := by
  simp only [cmpD, codM.eqD (by omega), Option.map, wp_some, decide_true]
end
/-! Q5 -/
abbrev FL := List (Str × Nat)
abbrev Pr := Int × Int
abbrev PR := List Pr
abbrev RU := PR × List PR
def fl2 (q : Str × Nat) : D := .tup [.str q.1, .int (q.2 : Nat)]
def eF : FL → D := eL fl2
def eP (q : Pr) : D := .tup [.int q.1, .int q.2]
def eW : PR → D := eL eP
def eA : List PR → D := eL eW
def eU (r : RU) : D := .tup [eW r.1, eA r.2]
def eZ : List RU → D := eL eU
def eX (p : Row) : D := .tup (p.map .int)
theorem frzF2 : Frz fl2 := fun _ => ⟨rfl, rfl⟩
theorem frzF : Frz eF := frzL frzF2
theorem frzP : Frz eP := fun _ => ⟨rfl, rfl⟩
theorem frzW : Frz eW := frzL frzP
theorem frzA : Frz eA := frzL frzW
theorem frzU : Frz eU := fun r => by
  have h1 := frzW r.1
  have h2 := frzA r.2
  simp [eU, D.nb, D.nbL, D.fz, D.fzL, h1.1, h1.2, h2.1, h2.2]
theorem frzZ : Frz eZ := frzL frzU
theorem frzX : Frz eX := fun p => by
  have := nbL_map frzI p
  simp [eX, D.nb, D.fz, this.1, this.2]
theorem u_F (l : FL) : eF l = .lst false (l.map fl2) := kp rfl
theorem u_P (q : Pr) : eP q = .tup [.int q.1, .int q.2] := kp rfl
theorem u_W (r : PR) : eW r = .lst false (r.map eP) := kp rfl
theorem u_A (r : List PR) : eA r = .lst false (r.map eW) := kp rfl
theorem u_U (r : RU) : eU r = .tup [eW r.1, eA r.2] := kp rfl
theorem u_Z (r : List RU) : eZ r = .lst false (r.map eU) := kp rfl
theorem u_X (p : Row) : eX p = .tup (p.map .int) := kp rfl
theorem u_R (r : Row) : eR r = .lst false (r.map .int) := kp rfl
theorem u_T (r : Tb) : eT r = .lst false (r.map eR) := kp rfl
def pP (q : Pr) : PyData := .tuple [.int q.1, .int q.2]
def pW : PR → PyData := pL pP
def pA : List PR → PyData := pL pW
def pU (r : RU) : PyData := .tuple [pW r.1, pA r.2]
def pZ : List RU → PyData := pL pU
def pX (p : Row) : PyData := .tuple (p.map .int)
theorem codP : Cod eP pP 1 where
  toP := fun _ => rfl
  lay := fun _ => rfl
  dep := fun _ => by simp [pP, PyData.depth, PyData.depthAll]
  eq := fun a b => by
    simp only [pP, PyData.eqv, PyData.eqvAll, Bool.and_true, Bool.and_eq_true]
    have h1 := codI.eq a.1 b.1
    have h2 := codI.eq a.2 b.2
    simp only [PyData.eqv] at h1 h2
    rw [h1, h2]
    exact ⟨fun h => Prod.ext h.1 h.2, fun h => by subst h; exact ⟨rfl, rfl⟩⟩
theorem codW : Cod eW pW 2 := codL codP
theorem codA : Cod eA pA 3 := codL codW
theorem codU : Cod eU pU 4 where
  toP := fun m => by simp only [eU, D.toP, D.toPL, codW.toP, codA.toP]; rfl
  lay := fun m => by
    have h1 := codW.lay m.1
    have h2 := codA.lay m.2
    simp only [pU, PyData.canLay0, PyData.canLayAll0, h1, h2, Bool.and_self]
  dep := fun m => by
    have h1 := codW.dep m.1
    have h2 := codA.dep m.2
    simp only [pU, PyData.depth, PyData.depthAll]
    omega
  eq := fun m l => by
    have h1 := codW.eq m.1 l.1
    have h2 := codA.eq m.2 l.2
    simp only [pU, PyData.eqv, PyData.eqvAll, Bool.and_true, Bool.and_eq_true]
    rw [h1, h2]
    exact ⟨fun h => Prod.ext h.1 h.2, fun h => by subst h; exact ⟨rfl, rfl⟩⟩
theorem codZ : Cod eZ pZ 5 := codL codU
theorem codX : Cod eX pX 1 where
  toP := fun as => by simp [eX, pX, D.toP, toPL_map codI.toP]
  lay := fun as => by simp [pX, PyData.canLay0, layL_map codI.lay]
  dep := fun as => by have := depL_map codI.dep as; simp [pX, PyData.depth]; omega
  eq := fun as bs => by simp only [pX, PyData.eqv]; exact eqvL_map codI.eq as bs
theorem eL_get {α : Type} (e : α → D) (as : List α) (i : Nat) (h : i < as.length) : L2.atI (as.map e) (i : Int) = some (e as[i]) := by
  rw [atI_nat]; simp [h]
theorem eL_getD {α : Type} (e : α → D) (as : List α) (a0 : α) (i : Nat) (h : i < as.length) : L2.atI (as.map e) (i : Int) = some (e (as.getD i a0)) := by
  rw [atI_nat]; simp [h]
def wsF (l : FL) : List Nat := l.map (·.2)
def szW (ws : List Nat) (f : Int) : Int := (ws.getD f.toNat 0 : Nat)
theorem fld_at {l : FL} {f : Int} (h0 : 0 ≤ f) (h1 : f < l.length) : ∃ x, L2.atI (l.map fl2) f = some (.tup [.str x, .int (szW (wsF l) f)]) := by
  obtain ⟨i, rfl⟩ : ∃ i : Nat, f = i := ⟨f.toNat, by omega⟩
  have hi : i < l.length := by omega
  refine ⟨l[i].1, ?_⟩
  rw [eL_get fl2 l i hi]
  simp [fl2, szW, wsF, hi]
theorem dl1 : decide (((1 : Nat) : Int) = 1) = true := kp rfl
theorem dl2 : decide (((2 : Nat) : Int) = 2) = true := kp rfl
theorem dBools_map : ∀ bs : List Bool, dBools (bs.map .bl) = some bs
  | [] => rfl
  | b :: bs => by simp [dBools, dBools_map bs]
/-- rising -/
def rise {α : Type} (lt : α → α → Bool) (a0 : α) (as : List α) : Bool := (List.range (as.length - 1)).all fun i => lt (as.getD i a0) (as.getD (i + 1) a0)
def okPr (ws : List Nat) (q : Pr) : Bool := decide (0 ≤ q.1) && decide (q.1 ≤ (ws.length : Int) - 1) && (decide (0 ≤ q.2) && decide (q.2 ≤ szW ws q.1 - 1))
def ltI (x y : Int) : Bool := decide (x < y)
def okW (ws : List Nat) (p : PR) : Bool := p.all (okPr ws) && rise ltI 0 (p.map (·.1))
def ltW (x y : PR) : Bool := gLt (pW x) (pW y)
def okA (ws : List Nat) (a : List PR) : Bool := a.all (okW ws) && rise ltW [] a
def okU (ws : List Nat) (r : RU) : Bool := okW ws r.1 && okA ws r.2
section
variable {μ : Sto} {X : Str → List D → Sto → Prop} {n : Nat}
theorem w_all {Q : D → Sto → Prop} {b : Bool} {bs : List Bool} : Wp (bltD .all (.lst b (bs.map .bl))) μ Q X = Q (.bl (bs.all id)) μ := by
  simp only [bltD, dBools_map, Option.map, wp_some]
theorem bls_fz (bs : List Bool) : D.fzL (bs.map .bl) = bs.map .bl := by rw [fzL_map]; rfl
theorem alike_map {α : Type} {f : α → PyData} (h : ∀ a b, PySem.W.alike (f a) (f b) = true) : ∀ as bs : List α, PySem.W.alikeAll (as.map f) (bs.map f) = true
  | [], _ => by simp [PySem.W.alikeAll]
  | _ :: _, [] => by simp [PySem.W.alikeAll]
  | a :: as, b :: bs => by
    show PySem.W.alikeAll (f a :: as.map f) (f b :: bs.map f) = true
    rw [PySem.W.alikeAll, alike_map h as bs, h a b]; rfl
theorem alP (a b : Pr) : PySem.W.alike (pP a) (pP b) = true := by simp [pP, PySem.W.alike, PySem.W.alikeAll]
theorem alW (a b : PR) : PySem.W.alike (pW a) (pW b) = true := by
  show PySem.W.alike (.list (a.map pP)) (.list (b.map pP)) = true
  rw [PySem.W.alike]; exact alike_map alP a b
theorem alX (a b : Row) : PySem.W.alike (pX a) (pX b) = true := by
  show PySem.W.alike (.tuple (a.map .int)) (.tuple (b.map .int)) = true
  rw [PySem.W.alike]; exact alike_map (fun _ _ => by simp [PySem.W.alike]) a b
theorem ordW (g : PyData → PyData → Bool) (x y : PR) : ordP g (eW x) (eW y) = M.ret (.bl (g (pW x) (pW y))) := by
  have h1 := codW.dep x
  have h2 : (PySem.W.alike (pW x) (pW y) && !isNoP (pW x) && decide (min (pW x).depth (pW y).depth ≤ 60)) = true := by
    rw [alW]
    have : isNoP (pW x) = false := rfl
    rw [this]
    simp; omega
  unfold ordP
  rw [codW.toP, codW.toP]
  show guard' (PySem.W.alike (pW x) (pW y) && !isNoP (pW x) && decide (min (pW x).depth (pW y).depth ≤ 60)) _ = _
  rw [h2]; rfl
theorem ltWD (x y : PR) : cmpD .lt (eW x) (eW y) = M.ret (.bl (ltW x y)) := ordW gLt x y
theorem geWD (x y : PR) : cmpD .ge (eW x) (eW y) = M.ret (.bl (!ltW x y)) := ordW gGe x y
theorem s_is_whole {k : Nat} {x : Int} (hk : 1 ≤ k) : Wp (run pp k (Str.ofString "is_whole") [.int x]) μ (fun d μ' => μ' = μ ∧ d = .bl true) X := by
  obtain ⟨k, rfl⟩ : ∃ j, k = j + 1 := ⟨k - 1, by omega⟩
  rw [e_is_whole]
  simp_arith [P85.f_is_whole, hasTy, isTy]
theorem s_law_whole {k : Nat} {x : Int} (hk : 1 ≤ k) : Wp (run pp k (Str.ofString "_law_whole") [.int x]) μ (fun d μ' => μ' = μ ∧ d = .bl true) X := by
  obtain ⟨k, rfl⟩ : ∃ j, k = j + 1 := ⟨k - 1, by omega⟩
  rw [e__law_whole]
  simp_arith [P85.f__law_whole, hasTy, isTy]
theorem s_is_between {k : Nat} {v a b : Int} (hk : 2 ≤ k) : Wp (run pp k (Str.ofString "is_between") [.int v, .int a, .int b]) μ (fun d μ' => μ' = μ ∧ d = .bl (decide (a ≤ v) && decide (v ≤ b))) X := by
  obtain ⟨k, rfl⟩ : ∃ j, k = j + 2 := ⟨k - 2, by omega⟩
  rw [e_is_between]
  simp_arith [P85.f_is_between]
  refine (s_is_whole (by omega)).mono ?_
  rintro d μ1 ⟨hμ, hd⟩
  subst hμ; subst hd
  simp_arith []
  by_cases h1 : a ≤ v
  · simp_arith [h1]
  · simp_arith [h1, Bool.false_and]
theorem s_is_rising {α : Type} {e : α → D} {k : Nat} (lt : α → α → Bool) (a0 : α) {as : List α} (hk : 1 ≤ k) (he : Frz e) (hlt : ∀ x y, cmpD .lt (e x) (e y) = M.ret (.bl (lt x y))) (hl : as.length ≤ 1000) : Wp (run pp k (Str.ofString "is_rising") [.lst false (as.map e)]) μ (fun d μ' => μ' = μ ∧ d = .bl (rise lt a0 as)) X := by
  obtain ⟨k, rfl⟩ : ∃ j, k = j + 1 := ⟨k - 1, by omega⟩
  have hn := nbL_map he as
  rw [e_is_rising]
  simp_arith [P85.f_is_rising, hn.1, hn.2]
  refine ⟨by omega, ?_⟩
  rw [show ((as.length : Int) - 1).toNat = as.length - 1 by omega]
  refine wp_mapV (fun i : Nat => D.int (1 + (i : Int))) (fun i => .bl (lt (as.getD i a0) (as.getD (i + 1) a0))) (List.range (as.length - 1)) [] _ (by simp [line_eq]; omega) ?_ ?_
  · intro i hi
    have hi := List.mem_range.1 hi
    have h1 := eL_getD e as a0 i (by omega)
    have h2 := eL_getD e as a0 (i + 1) (by omega)
    rw [show (i : Int) = 1 + (i : Int) - 1 by omega] at h1
    rw [show ((i + 1 : Nat) : Int) = 1 + (i : Int) by omega] at h2
    have f1 := he (as.getD i a0)
    have f2 := he (as.getD (i + 1) a0)
    simp_arith [hn.1, hn.2, h1, h2, f1.1, f1.2, f2.1, f2.2, hlt]
  · simp_arith []
    rw [show (List.range (as.length - 1)).map (fun i => D.bl (lt (as.getD i a0) (as.getD (i + 1) a0))) = ((List.range (as.length - 1)).map (fun i => lt (as.getD i a0) (as.getD (i + 1) a0))).map D.bl by simp, bls_fz]
    rw [w_all]
    simp [List.all_map, Function.comp_def, rise]
theorem ltID (x y : Int) : cmpD .lt (.int x) (.int y) = M.ret (.bl (ltI x y)) := kp rfl
end
/-! Q6 -/
section
variable {μ : Sto} {X : Str → List D → Sto → Prop} {n : Nat}
theorem all_take {α : Type} (p : α → Bool) (l : List α) (i : Nat) (h : i < l.length) (h1 : (l.take i).all p = true) (h2 : p l[i] = true) : (l.take (i + 1)).all p = true := by
  rw [List.take_succ_eq_append_getElem h, List.all_append, h1]; simp [h2]
theorem all_no {α : Type} (p : α → Bool) (l : List α) (i : Nat) (h : i < l.length) (h2 : p l[i] = false) : l.all p = false := by
  rw [Bool.eq_false_iff]
  intro hz
  rw [List.all_eq_true] at hz
  rw [hz _ (List.getElem_mem h)] at h2
  cases h2
theorem filt_all {α : Type} (p : α → Bool) (l : List α) : decide (((l.filter fun x => !p x).length : Int) = 0) = l.all p := by
  rw [Bool.eq_iff_iff, decide_eq_true_eq, List.all_eq_true]
  constructor
  · intro h x hx
    have h2 : (l.filter fun x => !p x) = [] := List.length_eq_zero_iff.1 (by omega)
    have := List.filter_eq_nil_iff.1 h2 x hx
    simpa using this
  · intro h
    have : (l.filter fun x => !p x) = [] := List.filter_eq_nil_iff.2 (fun x hx => by simp [h x hx])
    rw [this]; rfl
theorem wsF_len (l : FL) : (wsF l).length = l.length := by simp [wsF]
theorem s_is_pairs {k : Nat} {l : FL} {p : PR} (hk : 4 ≤ k) (hp : p.length ≤ 1000) : Wp (run pp k (Str.ofString "is_pairs") [eF l, eW p]) μ (fun d μ' => μ' = μ ∧ d = .bl (okW (wsF l) p)) X := by
  obtain ⟨k, rfl⟩ : ∃ j, k = j + 4 := ⟨k - 4, by omega⟩
  have h1 := frzF l
  have h2 := nbL_map frzP p
  rw [e_is_pairs]
  simp_arith [P85.f_is_pairs, hasTy, isTy, u_W, h2.1, h2.2]
  refine wp_for (fun d μ' => μ' = μ ∧ d = .bl false ∧ p.all (okPr (wsF l)) = false) _ (fun i ρ μ' => μ' = μ ∧ (p.take i).all (okPr (wsF l)) = true ∧ ∃ r2, ρ = [some (eF l), some (eW p), r2, none, none]) _ _ ⟨rfl, rfl, none, rfl⟩ ?_ ?_ ?_
  · rintro i hi _ μ ⟨rfl, ha, r2, rfl⟩
    have hi' : i < p.length := by simpa using hi
    simp only [List.getElem_map]
    simp_arith [u_P, hasTy, isTy, dl2, atI_0, h1.1, h1.2, u_F, (nbL_map frzF2 l).1, (nbL_map frzF2 l).2]
    refine (s_is_between (by omega)).mono ?_
    rintro d μ1 ⟨hμ, hd⟩
    subst hμ; subst hd
    simp_arith []
    cases h3 : (decide (0 ≤ p[i].1) && decide (p[i].1 ≤ (l.length : Int) - 1)) with
    | false =>
      simp_arith []
      exact all_no _ _ i hi' (by simp only [okPr, wsF_len]; rw [h3]; rfl)
    | true =>
      have h4 := h3
      simp only [Bool.and_eq_true, decide_eq_true_eq] at h4
      obtain ⟨x, hx⟩ := fld_at (l := l) h4.1 (by omega)
      simp_arith [atI_0, atI_1, hx, (nbL_map frzF2 l).1, (nbL_map frzF2 l).2]
      refine (s_is_between (by omega)).mono ?_
      rintro d μ2 ⟨hμ, hd⟩
      subst hμ; subst hd
      simp_arith []
      cases h5 : (decide (0 ≤ p[i].2) && decide (p[i].2 ≤ szW (wsF l) p[i].1 - 1)) with
      | false =>
        simp_arith []
        exact all_no _ _ i hi' (by simp only [okPr, wsF_len]; rw [h3, h5]; rfl)
      | true =>
        simp_arith []
        exact ⟨all_take _ _ i hi' ha (by simp only [okPr, wsF_len]; rw [h3, h5]; rfl), _, rfl⟩
  · rintro _ μ ⟨rfl, ha, r2, rfl⟩
    rw [List.length_map, List.take_length] at ha
    simp_arith [u_W, h2.1, h2.2]
    refine wp_mapV eP (fun q => .int q.1) p [] _ (by simp [line_eq]; omega) ?_ ?_
    · intro q hq
      simp_arith [u_P]
    · rw [List.nil_append, show p.map (fun q => D.int q.1) = (p.map (·.1)).map D.int by simp]
      simp_arith [fzL_ints]
      refine (s_is_rising ltI 0 (by omega) frzI ltID (by simp; omega)).mono ?_
      rintro d μ1 ⟨hμ, hd⟩
      subst hμ; subst hd
      simp [okW, ha]
  · rintro d μ ⟨rfl, rfl, h⟩
    simp_arith []
    simp [okW, h]
theorem s_law_are_pairs {k : Nat} {l : FL} {p : PR} (hk : 4 ≤ k) (hp : p.length ≤ 1000) : Wp (run pp k (Str.ofString "_law_are_pairs") [eF l, eW p]) μ (fun d μ' => μ' = μ ∧ d = .bl (okW (wsF l) p)) X := by
  obtain ⟨k, rfl⟩ : ∃ j, k = j + 4 := ⟨k - 4, by omega⟩
  have h1 := frzF l
  have h2 := nbL_map frzP p
  rw [e__law_are_pairs]
  simp_arith [P85.f__law_are_pairs, hasTy, isTy, u_W, h2.1, h2.2]
  refine wp_for (fun d μ' => μ' = μ ∧ d = .bl false ∧ p.all (okPr (wsF l)) = false) _ (fun i ρ μ' => μ' = μ ∧ (p.take i).all (okPr (wsF l)) = true ∧ ∃ r2, ρ = [some (eF l), some (eW p), r2, none]) _ _ ⟨rfl, rfl, none, rfl⟩ ?_ ?_ ?_
  · rintro i hi _ μ ⟨rfl, ha, r2, rfl⟩
    have hi' : i < p.length := by simpa using hi
    simp only [List.getElem_map]
    simp_arith [u_P, hasTy, isTy, dl2, atI_0, h1.1, h1.2, u_F, (nbL_map frzF2 l).1, (nbL_map frzF2 l).2]
    refine (s_law_whole (by omega)).mono ?_
    rintro d μ1 ⟨hμ, hd⟩
    subst hμ; subst hd
    simp_arith [atI_1]
    refine (s_law_whole (by omega)).mono ?_
    rintro d μ1 ⟨hμ, hd⟩
    subst hμ; subst hd
    simp_arith [atI_0, (nbL_map frzF2 l).1, (nbL_map frzF2 l).2]
    by_cases h3 : 0 ≤ p[i].1
    · simp_arith [h3, atI_0, (nbL_map frzF2 l).1, (nbL_map frzF2 l).2]
      by_cases h4 : p[i].1 < (l.length : Int)
      · obtain ⟨x, hx⟩ := fld_at (l := l) h3 h4
        simp_arith [h4, atI_0, atI_1, (nbL_map frzF2 l).1, (nbL_map frzF2 l).2]
        by_cases h5 : 0 ≤ p[i].2
        · simp_arith [h5, atI_0, atI_1, hx, (nbL_map frzF2 l).1, (nbL_map frzF2 l).2]
          by_cases h6 : p[i].2 < szW (wsF l) p[i].1
          · simp_arith [h6]
            refine ⟨all_take _ _ i hi' ha ?_, _, rfl⟩
            simp only [okPr, wsF_len, Bool.and_eq_true, decide_eq_true_eq]
            omega
          · simp_arith [h6]
            refine all_no _ _ i hi' ?_
            rw [Bool.eq_false_iff]
            simp only [okPr, wsF_len, ne_eq, Bool.and_eq_true, decide_eq_true_eq]
            omega
        · simp_arith [h5]
          refine all_no _ _ i hi' ?_
          rw [Bool.eq_false_iff]
          simp only [okPr, wsF_len, ne_eq, Bool.and_eq_true, decide_eq_true_eq]
          omega
      · simp_arith [h4]
        refine all_no _ _ i hi' ?_
        rw [Bool.eq_false_iff]
        simp only [okPr, wsF_len, ne_eq, Bool.and_eq_true, decide_eq_true_eq]
        omega
    · simp_arith [h3]
      refine all_no _ _ i hi' ?_
      rw [Bool.eq_false_iff]
      simp only [okPr, wsF_len, ne_eq, Bool.and_eq_true, decide_eq_true_eq]
      omega
  · rintro _ μ ⟨rfl, ha, r2, rfl⟩
    rw [List.length_map, List.take_length] at ha
    simp_arith [u_W, h2.1, h2.2]
    refine ⟨by omega, ?_⟩
    rw [show ((p.length : Int) - 1).toNat = p.length - 1 by omega]
    refine wp_mapF (fun i : Nat => D.int (1 + (i : Int))) (fun i => !ltI ((p.map (·.1)).getD i 0) ((p.map (·.1)).getD (i + 1) 0)) (List.range (p.length - 1)) [] _ (by simp [line_eq]; omega) ?_ ?_
    · intro i hi
      have hi := List.mem_range.1 hi
      have g1 := eL_getD eP p (0, 0) i (by omega)
      have g2 := eL_getD eP p (0, 0) (i + 1) (by omega)
      rw [show (i : Int) = 1 + (i : Int) - 1 by omega] at g1
      rw [show ((i + 1 : Nat) : Int) = 1 + (i : Int) by omega] at g2
      simp_arith [h2.1, h2.2, g1, g2, u_P, atI_0]
      have e1 : (p.map (·.1)).getD i 0 = (p.getD i (0, 0)).1 := by simp [show i < p.length by omega]
      have e2 : (p.map (·.1)).getD (i + 1) 0 = (p.getD (i + 1) (0, 0)).1 := by simp [show i + 1 < p.length by omega]
      rw [e1, e2]
      have e3 : (!ltI (p.getD i (0, 0)).1 (p.getD (i + 1) (0, 0)).1) = decide ((p.getD (i + 1) (0, 0)).1 ≤ (p.getD i (0, 0)).1) := by
        unfold ltI; rw [← decide_not]; exact decide_eq_decide.2 (by omega)
      rw [e3]
      cases decide ((p.getD (i + 1) (0, 0)).1 ≤ (p.getD i (0, 0)).1) <;> simp_arith [] <;> simp
    · simp_arith [fzL_len]
      refine congrArg D.bl ((filt_all (fun i => ltI ((p.map (·.1)).getD i 0) ((p.map (·.1)).getD (i + 1) 0)) (List.range (p.length - 1))).trans ?_)
      simp only [okW, ha, Bool.true_and, rise, List.length_map]
  · rintro d μ ⟨rfl, rfl, h⟩
    simp_arith []
    simp [okW, h]
end
/-! Q7 -/
/-- short enough to be gone through -/
def smU (r : RU) : Prop := r.1.length ≤ 100 ∧ r.2.length ≤ 100 ∧ ∀ a ∈ r.2, a.length ≤ 100
section
variable {μ : Sto} {X : Str → List D → Sto → Prop} {n : Nat}
theorem s_are_acts {k : Nat} {l : FL} {a : List PR} (hk : 5 ≤ k) (ha : a.length ≤ 100) (hs : ∀ p ∈ a, p.length ≤ 100) : Wp (run pp k (Str.ofString "are_acts") [eF l, eA a]) μ (fun d μ' => μ' = μ ∧ d = .bl (okA (wsF l) a)) X := by
  obtain ⟨k, rfl⟩ : ∃ j, k = j + 5 := ⟨k - 5, by omega⟩
  have h1 := frzF l
  have h2 := nbL_map frzW a
  rw [e_are_acts]
  simp_arith [P85.f_are_acts, hasTy, isTy, u_A, h2.1, h2.2]
  refine wp_mapV eW (fun p => .bl (okW (wsF l) p)) a [] _ (by simp [line_eq]; omega) ?_ ?_
  · intro p hp
    simp_arith [h1.1, h1.2, (frzW p).1, (frzW p).2]
    refine (s_is_pairs (by omega) (by have := hs p hp; omega)).mono ?_
    rintro d μ1 ⟨hμ, hd⟩
    subst hμ; subst hd
    exact ⟨rfl, rfl⟩
  · rw [List.nil_append, show a.map (fun p => D.bl (okW (wsF l) p)) = (a.map (okW (wsF l))).map D.bl by simp]
    simp_arith [bls_fz, w_all]
    rw [show (a.map (okW (wsF l))).all id = a.all (okW (wsF l)) by simp [List.all_map, Function.comp_def]]
    cases h : a.all (okW (wsF l)) with
    | false => simp_arith []; simp [okA, h]
    | true =>
      simp_arith [h2.1, h2.2]
      refine (s_is_rising ltW [] (by omega) frzW ltWD (by omega)).mono ?_
      rintro d μ1 ⟨hμ, hd⟩
      subst hμ; subst hd
      simp [okA, h]
theorem s_law_are_acts {k : Nat} {l : FL} {a : List PR} (hk : 5 ≤ k) (ha : a.length ≤ 100) (hs : ∀ p ∈ a, p.length ≤ 100) : Wp (run pp k (Str.ofString "_law_are_acts") [eF l, eA a]) μ (fun d μ' => μ' = μ ∧ d = .bl (okA (wsF l) a)) X := by
  obtain ⟨k, rfl⟩ : ∃ j, k = j + 5 := ⟨k - 5, by omega⟩
  have h1 := frzF l
  have h2 := nbL_map frzW a
  rw [e__law_are_acts]
  simp_arith [P85.f__law_are_acts, hasTy, isTy, u_A, h2.1, h2.2]
  refine wp_mapF eW (fun p => !okW (wsF l) p) a [] _ (by simp [line_eq]; omega) ?_ ?_
  · intro p hp
    simp_arith [h1.1, h1.2, (frzW p).1, (frzW p).2]
    refine (s_law_are_pairs (by omega) (by have := hs p hp; omega)).mono ?_
    rintro d μ1 ⟨hμ, hd⟩
    subst hμ; subst hd
    simp_arith []
    cases okW (wsF l) p <;> simp_arith [(frzW p).1, (frzW p).2] <;> simp
  · have hall := filt_all (okW (wsF l)) a
    simp_arith [fzL_len]
    have hpos : decide ((0 : Int) < ((a.filter fun p => !okW (wsF l) p).length : Int)) = !(a.all (okW (wsF l))) := by
      rw [← hall, ← decide_not]; exact decide_eq_decide.2 (by omega)
    rw [hpos]
    cases h : a.all (okW (wsF l)) with
    | false => simp_arith []; simp [okA, h]
    | true =>
      simp_arith [h2.1, h2.2]
      refine ⟨by omega, ?_⟩
      rw [show ((a.length : Int) - 1).toNat = a.length - 1 by omega]
      refine wp_mapF (fun i : Nat => D.int (1 + (i : Int))) (fun i => !ltW (a.getD i []) (a.getD (i + 1) [])) (List.range (a.length - 1)) [] _ (by simp [line_eq]; omega) ?_ ?_
      · intro i hi
        have hi := List.mem_range.1 hi
        have g1 := eL_getD eW a [] i (by omega)
        have g2 := eL_getD eW a [] (i + 1) (by omega)
        rw [show (i : Int) = 1 + (i : Int) - 1 by omega] at g1
        rw [show ((i + 1 : Nat) : Int) = 1 + (i : Int) by omega] at g2
        simp_arith [h2.1, h2.2, g1, g2, (frzW (a.getD i [])).2, (frzW (a.getD (i + 1) [])).2, geWD]
        cases ltW (a.getD i []) (a.getD (i + 1) []) <;> simp_arith [] <;> simp
      · simp_arith [fzL_len]
        refine congrArg D.bl ((filt_all (fun i => ltW (a.getD i []) (a.getD (i + 1) [])) (List.range (a.length - 1))).trans ?_)
        simp only [okA, h, Bool.true_and, rise]
theorem s_is_rule {k : Nat} {l : FL} {r : RU} (hk : 6 ≤ k) (hr : smU r) : Wp (run pp k (Str.ofString "is_rule") [eF l, eU r]) μ (fun d μ' => μ' = μ ∧ d = .bl (okU (wsF l) r)) X := by
  obtain ⟨k, rfl⟩ : ∃ j, k = j + 6 := ⟨k - 6, by omega⟩
  have h1 := frzF l
  rw [e_is_rule]
  simp_arith [P85.f_is_rule, hasTy, isTy, u_U, (frzW r.1).1, (frzW r.1).2, (frzA r.2).1, (frzA r.2).2, dl2, w_nei, h1.1, h1.2, atI_0]
  refine (s_is_pairs (by omega) (by have := hr.1; omega)).mono ?_
  rintro d μ1 ⟨hμ, hd⟩
  subst hμ; subst hd
  simp_arith []
  cases h : okW (wsF l) r.1 with
  | false => simp_arith []; simp [okU, h]
  | true =>
    simp_arith [atI_1, (frzW r.1).1, (frzW r.1).2, (frzA r.2).1, (frzA r.2).2, h1.1, h1.2]
    refine (s_are_acts (by omega) hr.2.1 hr.2.2).mono ?_
    rintro d μ1 ⟨hμ, hd⟩
    subst hμ; subst hd
    simp [okU, h]
theorem s_law_is_rule {k : Nat} {l : FL} {r : RU} (hk : 6 ≤ k) (hr : smU r) : Wp (run pp k (Str.ofString "_law_is_rule") [eF l, eU r]) μ (fun d μ' => μ' = μ ∧ d = .bl (okU (wsF l) r)) X := by
  obtain ⟨k, rfl⟩ : ∃ j, k = j + 6 := ⟨k - 6, by omega⟩
  have h1 := frzF l
  rw [e__law_is_rule]
  simp_arith [P85.f__law_is_rule, hasTy, isTy, u_U, (frzW r.1).1, (frzW r.1).2, (frzA r.2).1, (frzA r.2).2, dl2, w_nei, h1.1, h1.2, atI_0]
  refine (s_law_are_pairs (by omega) (by have := hr.1; omega)).mono ?_
  rintro d μ1 ⟨hμ, hd⟩
  subst hμ; subst hd
  simp_arith []
  cases h : okW (wsF l) r.1 with
  | false => simp_arith []; simp [okU, h]
  | true =>
    simp_arith [atI_1, (frzW r.1).1, (frzW r.1).2, (frzA r.2).1, (frzA r.2).2, h1.1, h1.2]
    refine (s_law_are_acts (by omega) hr.2.1 hr.2.2).mono ?_
    rintro d μ1 ⟨hμ, hd⟩
    subst hμ; subst hd
    simp [okU, h]
theorem num_get : ∀ (ds : List D) (m i : Nat) (h : i < (num m ds).length), (num m ds)[i] = .tup [.int ((m + i : Nat) : Int), ds.getD i .non]
  | [], _, _, h => by simp [num] at h
  | d :: ds, m, 0, h => by simp [num]
  | d :: ds, m, i + 1, h => by
    have := num_get ds (m + 1) i (by simpa [num] using h)
    simp only [num, List.getElem_cons_succ, this, List.getD_cons_succ]
    rw [show m + 1 + i = m + (i + 1) by omega]
end
/-! Q8 -/
theorem int_get (r : Row) (i : Nat) (h : i < r.length) : L2.atI (r.map D.int) (i : Int) = some (.int (r.getD i 0)) := by
  rw [atI_nat]; simp [h]
section
variable {μ : Sto} {X : Str → List D → Sto → Prop}
theorem w_isNnon {Q : D → Sto → Prop} : Wp (cmpD .isN .non .non) μ Q X = Q (.bl true) μ := by
  rw [show cmpD .isN .non .non = M.ret (.bl true) from rfl, wp_ret]
end
inductive Sm : Nat → D → Prop where
  | non (j : Nat) : Sm j .non
  | int (j : Nat) (i : Int) : Sm j (.int i)
  | str (j : Nat) (x : Str) (h : PyData.strOk x = true) : Sm j (.str x)
  | tup (j : Nat) (ds : List D) (h : ds.length ≤ 100) (t : ∀ d ∈ ds, Sm j d) : Sm (j + 1) (.tup ds)
  | lst (j : Nat) (ds : List D) (h : ds.length ≤ 100) (t : ∀ d ∈ ds, Sm j d) : Sm (j + 1) (.lst false ds)
theorem Sm.fz : ∀ (j : Nat) (d : D), Sm j d → d.nb = true ∧ d.fz = d
  | _, _, .non j => ⟨rfl, rfl⟩
  | _, _, .int j i => ⟨rfl, rfl⟩
  | _, _, .str j x h => ⟨rfl, rfl⟩
  | _, _, .tup j ds h t => by
    have := nbL_of (fun d hd => Sm.fz j d hd) t
    simp [D.nb, D.fz, this.1, this.2]
  | _, _, .lst j ds h t => by
    have := nbL_of (fun d hd => Sm.fz j d hd) t
    simp [D.nb, D.fz, this.1, this.2]
section
variable {μ : Sto} {X : Str → List D → Sto → Prop} {Q : D → Sto → Prop}
theorem w_isNi {i : Int} : Wp (cmpD .isN (.int i) .non) μ Q X = Q (.bl false) μ := by
  rw [show cmpD .isN (.int i) .non = M.ret (.bl false) from rfl, wp_ret]
theorem w_isNs {x : Str} : Wp (cmpD .isN (.str x) .non) μ Q X = Q (.bl false) μ := by
  rw [show cmpD .isN (.str x) .non = M.ret (.bl false) from rfl, wp_ret]
theorem w_eqss {x : Str} (h : PyData.strOk x = true) : Wp (cmpD .eq (.str x) (.str x)) μ Q X = Q (.bl true) μ := by
  have h1 : D.eqD (.str x) (.str x) = some true := by
    simp [D.eqD, D.toP, SeqAt.shaped, PyData.canLay0, PyData.depth, PyData.eqv, h]
  simp only [cmpD, h1, Option.map, wp_some]
theorem w_neff : Wp (cmpD .ne (.bl false) (.bl false)) μ Q X = Q (.bl false) μ := by
  rw [show cmpD .ne (.bl false) (.bl false) = M.ret (.bl false) by with_unfolding_all rfl, wp_ret]
theorem w_nett : Wp (cmpD .ne (.bl true) (.bl true)) μ Q X = Q (.bl false) μ := by
  rw [show cmpD .ne (.bl true) (.bl true) = M.ret (.bl false) by with_unfolding_all rfl, wp_ret]
end
theorem all_true (ds : List D) : (ds.map fun _ => D.bl true) = (ds.map (fun _ => true)).map D.bl := by simp
theorem s_law_same : ∀ (j : Nat) (d : D), Sm j d → ∀ (k : Nat) (μ : Sto) (X : Str → List D → Sto → Prop), j + 1 ≤ k → Wp (run pp k (Str.ofString "_law_same") [d, d]) μ (fun r μ' => μ' = μ ∧ r = .bl true) X := by
  have seqs : ∀ (j : Nat) (ds : List D) (h : ds.length ≤ 100) (t : ∀ d ∈ ds, Sm j d) (ih : ∀ d ∈ ds, ∀ (k : Nat) (μ : Sto) (X : Str → List D → Sto → Prop), j + 1 ≤ k → Wp (run pp k (Str.ofString "_law_same") [d, d]) μ (fun r μ' => μ' = μ ∧ r = .bl true) X) (k : Nat) (hk : j + 1 ≤ k) (y : D) (hy : y = .tup ds ∨ y = .lst false ds) (μ : Sto) (X : Str → List D → Sto → Prop) (Q : List D → Sto → Prop) (hq : Q (ds.map fun _ => .bl true) μ),
      Wp (mapC (fun x => bdy (Φ k) none (.call (Str.ofString "_law_same") [(.idx (.var 0) (.var 2)), (.idx (.var 1) (.var 2))]) (some [some y, some y, some x])) (List.map (fun i => D.int (0 + (i : Nat))) (List.range ds.length)) []) μ Q X := by
    intro j ds h t ih k hk y hy μ X Q hq
    have hf := nbL_of (fun d hd => Sm.fz j d hd) t
    refine wp_mapV (fun i : Nat => D.int (0 + (i : Nat))) (fun _ => .bl true) (List.range ds.length) [] _ (by simp [line_eq]; omega) ?_ ?_
    · intro i hi
      have hi := List.mem_range.1 hi
      have g : L2.atI ds ((0 : Int) + (i : Nat)) = some ds[i] := by
        rw [show ((0 : Int) + (i : Nat)) = (i : Int) by omega, atI_nat]; simp [hi]
      have hm := List.getElem_mem hi
      have f1 := Sm.fz j _ (t _ hm)
      rcases hy with rfl | rfl
      · simp_arith [hf.1, hf.2, g, f1.1, f1.2]
        refine (ih _ hm k _ _ hk).mono ?_
        rintro d μ1 ⟨hμ, hd⟩
        subst hμ; subst hd
        exact ⟨rfl, rfl⟩
      · simp_arith [hf.1, hf.2, g, f1.1, f1.2]
        refine (ih _ hm k _ _ hk).mono ?_
        rintro d μ1 ⟨hμ, hd⟩
        subst hμ; subst hd
        exact ⟨rfl, rfl⟩
    · rw [List.nil_append, show (List.range ds.length).map (fun _ => D.bl true) = ds.map (fun _ => .bl true) by simp [List.map_const']]
      exact hq
  intro j d h
  induction h with
  | non j =>
    intro k μ X hk
    obtain ⟨k, rfl⟩ : ∃ j, k = j + 1 := ⟨k - 1, by omega⟩
    rw [e__law_same]
    simp_arith [P85.f__law_same, hasTy, isTy, w_isNnon]
  | int j i =>
    intro k μ X hk
    obtain ⟨k, rfl⟩ : ∃ j, k = j + 1 := ⟨k - 1, by omega⟩
    rw [e__law_same]
    simp_arith [P85.f__law_same, hasTy, isTy, w_isNi]
  | str j x hx =>
    intro k μ X hk
    obtain ⟨k, rfl⟩ : ∃ j, k = j + 1 := ⟨k - 1, by omega⟩
    rw [e__law_same]
    simp_arith [P85.f__law_same, hasTy, isTy, w_isNs, w_eqss hx]
  | tup j ds h t ih =>
    intro k μ X hk
    obtain ⟨k, rfl⟩ : ∃ j, k = j + 1 := ⟨k - 1, by omega⟩
    have hf := nbL_of (fun d hd => Sm.fz j d hd) t
    rw [e__law_same]
    simp_arith [P85.f__law_same, hasTy, isTy, w_neff, w_nett, hf.1, hf.2]
    refine ⟨by omega, ?_⟩
    rw [show ((ds.length : Int) - 0).toNat = ds.length by omega]
    refine seqs j ds h t ih k (by omega) _ (.inl rfl) _ _ _ ?_
    (try simp_arith [])
    rw [all_true, show D.fzL ((ds.map (fun _ => true)).map D.bl) = (ds.map (fun _ => true)).map D.bl by rw [fzL_map]; rfl, w_all]
    simp
  | lst j ds h t ih =>
    intro k μ X hk
    obtain ⟨k, rfl⟩ : ∃ j, k = j + 1 := ⟨k - 1, by omega⟩
    have hf := nbL_of (fun d hd => Sm.fz j d hd) t
    rw [e__law_same]
    simp_arith [P85.f__law_same, hasTy, isTy, w_neff, w_nett, hf.1, hf.2]
    refine ⟨by omega, ?_⟩
    rw [show ((ds.length : Int) - 0).toNat = ds.length by omega]
    refine seqs j ds h t ih k (by omega) _ (.inr rfl) _ _ _ ?_
    (try simp_arith [])
    rw [all_true, show D.fzL ((ds.map (fun _ => true)).map D.bl) = (ds.map (fun _ => true)).map D.bl by rw [fzL_map]; rfl, w_all]
    simp
theorem Sm.mono : ∀ (j : Nat) (d : D), Sm j d → ∀ l, j ≤ l → Sm l d
  | _, _, .non j, l, _ => .non l
  | _, _, .int j i, l, _ => .int l i
  | _, _, .str j x h, l, _ => .str l x h
  | _, _, .tup j ds h t, l, hl => by
    obtain ⟨l, rfl⟩ : ∃ m, l = m + 1 := ⟨l - 1, by omega⟩
    exact .tup l ds h (fun d hd => Sm.mono j d (t d hd) l (by omega))
  | _, _, .lst j ds h t, l, hl => by
    obtain ⟨l, rfl⟩ : ∃ m, l = m + 1 := ⟨l - 1, by omega⟩
    exact .lst l ds h (fun d hd => Sm.mono j d (t d hd) l (by omega))
theorem allP3 {P : D → Prop} {a b c : D} (h1 : P a) (h2 : P b) (h3 : P c) : ∀ d ∈ [a, b, c], P d := by
  intro d hd
  simp at hd
  rcases hd with rfl | rfl | rfl <;> assumption
theorem draw_cut : P85.f__law_draw.body = (.ife (.and (.cmp .eq (.idx (.var 0) (.int 2)) (.int 0)) (.cmp .lt (.idx (.var 0) (.int 1)) (.blt .len (.idx (.var 0) (.int 0))))) [.set true (.nm 2) (.blt .abs (.blt .int (.idx (.idx (.var 0) (.int 0)) (.idx (.var 0) (.int 1))))), .raug (.var 0) (.int 1) .add (.int 1), .ife (.cmp .ge (.var 2) (.bin .pow (.int 10) (.int 18))) [.rput (.var 0) (.int 2) (.var 2)] [.rput (.var 0) (.int 3) (.bin .mod (.blt .int (.bin .add (.bin .add (.bin .mul (.idx (.var 0) (.int 3)) (.int 48271)) (.bin .mul (.var 2) (.int 69621))) (.idx (.var 0) (.int 1)))) (.int 2147483647))]] []) :: P85.f__law_draw.body.tail := rfl

def FO (μ : Sto) : Prop := ∃ (s : List Int) (a b c : Int), μ = [[.lst false (s.map .int), .int a, .int b, .int c]] ∧ 0 ≤ a
section
variable {μ : Sto} {X : Str → List D → Sto → Prop} {Q : D → Sto → Prop} {QU : Unit → Sto → Prop}
theorem w_ixR {ds : List D} {i : Int} : Wp (idxD (.ref 0) (.int i)) [ds] Q X = Wp (ofO (L2.atI ds i)) [ds] Q X := by
  simp only [Wp, idxD, List.getElem?_cons_zero, getD']
  cases L2.atI ds i <;> rfl
theorem w_setR1 {a b c e d : D} : Wp (setR (.ref 0) (.int 1) d) [[a, b, c, e]] QU X = QU () [[a, d, c, e]] := wp_ok (by with_unfolding_all rfl)
theorem w_setR2 {a b c e d : D} : Wp (setR (.ref 0) (.int 2) d) [[a, b, c, e]] QU X = QU () [[a, b, d, e]] := wp_ok (by with_unfolding_all rfl)
theorem w_setR3 {a b c e d : D} : Wp (setR (.ref 0) (.int 3) d) [[a, b, c, e]] QU X = QU () [[a, b, c, d]] := wp_ok (by with_unfolding_all rfl)
theorem w_getR1 {a b c e : D} : Wp (getR (.ref 0) (.int 1)) [[a, b, c, e]] Q X = Q b [[a, b, c, e]] := wp_ok (by with_unfolding_all rfl)
theorem atI_3 {α : Type} (a b c d : α) (as : List α) : L2.atI (a :: b :: c :: d :: as) 3 = some d := by
  have := atI_nat (a :: b :: c :: d :: as) 3
  simpa using this
theorem b64a : (-B64 < 48271 ∧ 48271 < B64) = True := by simp [B64]
theorem b64b : (-B64 < 69621 ∧ 69621 < B64) = True := by simp [B64]
theorem b64c : (-B64 < 16807 ∧ 16807 < B64) = True := by simp [B64]
theorem draw_rest {k many : Nat} (hm : 0 < many) (hm2 : many < 1073741824) (s : List Int) (a b c : Int) (ha : 0 ≤ a) (r2 : Option D) : Wp (exSs (Φ k) P85.f__law_draw.body.tail [some (.ref 0), some (.int many), r2, none, none]) [[.lst false (s.map .int), .int a, .int b, .int c]] (fun fl μ' => ∃ i : Nat, fl = .rt (.int i) ∧ i < many ∧ FO μ') X := by
  simp_arith [P85.f__law_draw, List.tail_cons, w_ixR, atI_2, atI_3]
  by_cases hb : 0 < b
  · rw [decide_eq_true hb]
    simp_arith [w_ixR, atI_2, atI_3, w_setR2, w_setR3]
    refine ⟨by omega, by omega, (b % many).toNat, ?_, ?_, s, a, _, c, rfl, ha⟩
    · have := Int.emod_nonneg b (show (many : Int) ≠ 0 by omega)
      rw [Int.toNat_of_nonneg this]
    · have h1 := Int.emod_nonneg b (show (many : Int) ≠ 0 by omega)
      have h2 := Int.emod_lt_of_pos b (show (0 : Int) < many by omega)
      omega
  · rw [decide_eq_false hb]
    simp_arith [w_ixR, atI_2, atI_3, w_setR2, w_setR3, b64c, or_true, true_or]
    have h1 := Int.emod_nonneg (c * 16807 + 12345) (show (2147483647 : Int) ≠ 0 by omega)
    have h2 := Int.emod_lt_of_pos (c * 16807 + 12345) (show (0 : Int) < 2147483647 by omega)
    refine ⟨by omega, .inl (by simp only [B64]; omega), by omega, by omega, by omega, ?_⟩
    generalize ((c * 16807 + 12345) % 2147483647 * ((c * 16807 + 12345) % 2147483647) + (c * 16807 + 12345) % 2147483647) % 2147483629 / 11 = z
    refine ⟨(z % many).toNat, ?_, ?_, s, a, b, _, rfl, ha⟩
    · have := Int.emod_nonneg z (show (many : Int) ≠ 0 by omega)
      rw [Int.toNat_of_nonneg this]
    · have h1 := Int.emod_nonneg z (show (many : Int) ≠ 0 by omega)
      have h2 := Int.emod_lt_of_pos z (show (0 : Int) < many by omega)
      omega
end
section
variable {μ : Sto} {X : Str → List D → Sto → Prop}
theorem s_draw {k many : Nat} (hk : 1 ≤ k) (hf : FO μ) (hm : 0 < many) (hm2 : many < 1073741824) : Wp (run pp k (Str.ofString "_law_draw") [.ref 0, .int many]) μ (fun d μ' => FO μ' ∧ ∃ i : Nat, d = .int i ∧ i < many) X := by
  obtain ⟨k, rfl⟩ : ∃ j, k = j + 1 := ⟨k - 1, by omega⟩
  obtain ⟨s, a, b, c, rfl, ha⟩ := hf
  have rest : ∀ (a b c : Int) (ha : 0 ≤ a) (r2 : Option D), Wp (exSs (Φ k) P85.f__law_draw.body.tail [some (.ref 0), some (.int many), r2, none, none]) [[.lst false (s.map .int), .int a, .int b, .int c]] (fun a μ' => Wp (endFl a) μ' (fun d μ' => FO μ' ∧ ∃ i : Nat, d = .int i ∧ i < many) X) X := by
    intro a b c ha r2
    refine (draw_rest hm hm2 s a b c ha r2).mono ?_
    rintro _ μ1 ⟨i, rfl, hi, hfo⟩
    simp_arith []
    exact ⟨hfo, i, rfl, hi⟩
  rw [e__law_draw, draw_cut]
  simp_arith [w_ixR, atI_0, atI_1, atI_2, atI_3]
  by_cases hb : b = 0
  · rw [decide_eq_true hb]
    simp_arith [w_ixR, atI_0, atI_1, atI_2, atI_3, nbL_ints, fzL_ints]
    by_cases hs : a < s.length
    · rw [decide_eq_true hs]
      obtain ⟨j, rfl⟩ : ∃ j : Nat, a = j := ⟨a.toNat, by omega⟩
      have hj : j < s.length := by omega
      have g := int_get s j hj
      simp_arith [w_ixR, atI_0, atI_1, atI_2, atI_3, nbL_ints, fzL_ints, g, w_getR1, augD, w_setR1, w_pow]
      refine ⟨by simp only [B64]; omega, ?_⟩
      generalize (if s.getD j 0 < 0 then -s.getD j 0 else s.getD j 0) = cell
      generalize (10 : Int) ^ (18 : Int).toNat = big
      by_cases hc : big ≤ cell
      · rw [decide_eq_true hc]
        simp_arith [w_setR2]
        exact rest _ _ _ (by omega) _
      · rw [decide_eq_false hc]
        simp_arith [w_ixR, atI_0, atI_1, atI_2, atI_3, b64a, b64b, or_true, w_setR3]
        exact ⟨by omega, rest _ _ _ (by omega) _⟩
    · rw [decide_eq_false hs]
      simp_arith []
      exact rest _ _ _ ha _
  · rw [decide_eq_false hb]
    simp_arith []
    exact rest _ _ _ ha _
end

section
variable {μ : Sto} {X : Str → List D → Sto → Prop} {Ψ : Cfg} {ρ : Env}
def bd2 (Φ : Cfg) (it' : I) (t' : T) (c : Option E) (e : E) (acc : List D) : Option Env → M (List D)
  | some ρ1 => M.bind (evI Φ it' ρ1) fun ys => mapC (fun y => bdy Φ c e (asg t' y (wipe ρ1 t'.ix))) ys acc
  | none => M.bad
theorem w_lc2 {Ψ : Cfg} {ρ : Env} {Q : D → Sto → Prop} {t t' : T} {it it' : I} {c : Option E} {e : E} : Wp (evE Ψ (.lc2 t it t' it' c e) ρ) μ Q X = Wp (evI Ψ it ρ) μ (fun xs μ1 => Wp (foldC (fun x acc => bd2 Ψ it' t' c e acc (asg t x (wipe ρ (t.ix ++ t'.ix)))) xs []) μ1 (fun ys μ2 => Q (.lst true ys) μ2) nX) X := by
  simp only [evE, wp_bind, wp_nox, wp_ret]
  try rfl
  try (congr; funext xs μ1; congr; funext x acc)
  try (unfold bd2; cases asg t x (wipe ρ (t.ix ++ t'.ix)) <;> simp only [])
  try (congr; funext ys; congr; funext y; unfold bdy; cases asg t' y (wipe _ t'.ix) <;> rfl)
theorem w_bd2 {Ψ : Cfg} {ρ : Env} {Q : List D → Sto → Prop} {t' : T} {it' : I} {c : Option E} {e : E} {acc : List D} : Wp (bd2 Ψ it' t' c e acc (some ρ)) μ Q X = Wp (evI Ψ it' ρ) μ (fun ys μ1 => Wp (mapC (fun y => bdy Ψ c e (asg t' y (wipe ρ t'.ix))) ys acc) μ1 Q X) X := by
  simp only [bd2, wp_bind]
/-- a double comprehension: each outer part puts its own behind -/
theorem wp_foldC {f : D → List D → M (List D)} (g : D → List D) {X : Str → List D → Sto → Prop} : ∀ (xs : List D) (acc : List D) (Q : List D → Sto → Prop),
    (∀ x ∈ xs, ∀ acc Q, acc.length ≤ 10000 → Q (acc ++ g x) μ → Wp (f x acc) μ Q X) → acc.length + (xs.map fun x => (g x).length).sum ≤ 10000 → Q (acc ++ xs.flatMap g) μ → Wp (foldC f xs acc) μ Q X
  | [], acc, Q, hf, hl, hq => by simpa [foldC, wp_ret] using hq
  | x :: xs, acc, Q, hf, hl, hq => by
    rw [foldC, wp_bind]
    simp only [List.map_cons, List.sum_cons] at hl
    refine hf x List.mem_cons_self acc _ (by omega) ?_
    exact wp_foldC g xs (acc ++ g x) Q (fun y hy => hf y (List.mem_cons_of_mem _ hy)) (by simp; omega) (by simpa using hq)
theorem w_appAt {Ψ : Cfg} {ρ : Env} {Q : Fl → Sto → Prop} {i : Nat} {k e : E} : Wp (exS Ψ (.appAt i k e) ρ) μ Q X = Wp (match ρ[i]? with
    | some (some (.lst true ds)) => M.bind (evE Ψ k ρ) fun k => match ixD ds.length k with
      | some j => match ds[j]? with
        | some (.lst true es) => M.bind (evE Ψ e ρ) fun d => guard' (decide (es.length < LINE)) (M.ret (.nx (ρ.set i (some (.lst true (ds.set j (.lst true (es ++ [d]))))))))
        | _ => M.bad
      | none => M.bad
    | _ => M.bad) μ Q X := by with_unfolding_all rfl
/-! the table turned -/
def hanK (Φ : Cfg) (i : Nat) (hs : List S) (ρ : Env) (k : Str) (fs : List D) : Option Bool → M Fl
  | some true => nox (M.bind (exSs Φ hs (ρ.set i (some (.exn k fs)))) (outX i))
  | some false => M.exc k fs
  | none => M.bad
variable {Ψ : Cfg} {ρ : Env}
theorem w_try {Q : Fl → Sto → Prop} {c : Str} {i : Nat} {s : S} {hs : List S} : Wp (exS Ψ (.tryS c i s hs) ρ) μ Q X = ((allNb ρ && decide (i < ρ.length)) = true ∧ Wp (exS Ψ s ρ) μ Q (fun k fs μ1 => Wp (hanK Ψ i hs ρ k fs (Ψ.xi.sub k c)) μ1 Q X)) := by
  simp only [exS, tryK, wp_guard]
  congr 1
  unfold Wp
  cases h : exS Ψ s ρ μ with
  | ok a μ1 => simp [h]
  | bad => simp [h]
  | exc k fs μ1 =>
    simp only [h]
    cases hs : Ψ.xi.sub k c with
    | none => rfl
    | some b => cases b <;> rfl
theorem w_hanT {Q : Fl → Sto → Prop} {i : Nat} {hs : List S} {k : Str} {fs : List D} : Wp (hanK Ψ i hs ρ k fs (some true)) μ Q X = Wp (exSs Ψ hs (ρ.set i (some (.exn k fs)))) μ (fun fl μ1 => Wp (outX i fl) μ1 Q nX) nX := by
  simp only [hanK, wp_nox, wp_bind]
theorem w_outR {Q : Fl → Sto → Prop} {i : Nat} {d : D} : Wp (outX i (.rt d)) μ Q X = Q (.rt d) μ := by
  simp only [outX, wp_ret]
variable {Q : D → Sto → Prop}
theorem w_newRef {Ψ : Cfg} {ρ : Env} {es : List E} : Wp (evE Ψ (.newRef es) ρ) μ Q X = Wp (evEs Ψ es ρ) μ (fun ds μ1 => (decide (ds.length ≤ LINE) && D.nbL (ds.map D.fz)) = true ∧ Q (.ref μ1.length) (μ1 ++ [ds.map D.fz])) X := by
  simp only [evE, wp_bind, wp_guard]
  congr
  funext a μ1
  exact congrArg _ (wp_ok rfl)
theorem w_callB {Ψ : Cfg} {ρ : Env} {f : Str} {es : List E} : Wp (evE Ψ (.callB f es) ρ) μ Q X = Wp (evEs Ψ es ρ) μ (fun ds μ1 => Wp (fun μ : Sto => match Ψ.fn f (D.fzL ds) [] with
    | .ok d _ => if d.flat && D.nrL ds then .ok d μ else .bad
    | _ => .bad) μ1 Q X) X := by
  simp only [evE, wp_bind]
  try rfl
theorem o_callB {Ψ : Cfg} {ρ : Env} {f : Str} {es : List E} : Wp (Op Ψ (.callB f es) ρ) μ Q X = Wp (evE Ψ (.callB f es) ρ) μ (fun d μ1 => Q d.fz μ1) X := w_op rfl
theorem w_isIn {x : Int} {b : Bool} {r : List Int} : Wp (cmpD .isIn (.int x) (.lst b (r.map .int))) μ Q X = Q (.bl (decide (x ∈ r))) μ := by
  have h : inD (.int x) (.lst b (r.map .int)) = some (decide (x ∈ r)) := by
    have h2 : L2.inV (L2.V.int x) ((r.map D.int).map D.toV) = decide (x ∈ r) := by
      induction r with
      | nil => rfl
      | cons y r ih =>
        simp only [List.map_cons, L2.inV, List.any_cons] at ih ⊢
        rw [ih]
        by_cases h : y = x
        · subst h; simp [D.toV, L2.eqV]
        · have : ¬ x = y := fun e => h e.symm
          simp [D.toV, L2.eqV, h, this]
    simp only [inD, D.flat, Bool.true_and, D.toV, h2]
    rw [if_pos (by simp [D.flat])]
  simp only [cmpD, h, Option.map, wp_some]
theorem s_feed {k : Nat} (hk : 1 ≤ k) (ns : List Int) (hl : ns.length ≤ 100) : Wp (run pp k (Str.ofString "_law_feed") [.lst false (ns.map .int)]) [] (fun d μ' => d = .ref 0 ∧ FO μ') X := by
  obtain ⟨k, rfl⟩ : ∃ j, k = j + 1 := ⟨k - 1, by omega⟩
  rw [e__law_feed]
  simp_arith [P85.f__law_feed, w_newRef, nbL_ints, fzL_ints, List.map_cons, List.map_nil]
  exact ⟨ns, 0, 0, 1, rfl, by omega⟩
end
/-! Q9 -/
/-- shown in few signs -/
structure Bd (m : Nat) (p : PyData) : Prop where
  sh : p.showable = true
  nd : p.hasDict = false
  lf : p.leavesShort 30 = true
  wt : p.weight ≤ m
theorem bdI {i : Int} (h : i.natAbs ≤ 10 ^ 21) : Bd 71 (.int i) where
  sh := by
    simp only [PyData.showable, decide_eq_true_eq]
    have h1 : i.natAbs < 2 ^ 71 := Nat.lt_of_le_of_lt h (by decide)
    have h2 : i.natAbs.log2 < 71 := by
      by_cases e : i.natAbs = 0
      · rw [e]; decide
      · exact (Nat.log2_lt e).2 h1
    omega
  nd := rfl
  lf := by
    simp only [PyData.leavesShort, PyData.shown, decide_eq_true_eq]
    have h1 := int_text_length_le10 (a := i) (k := 22) (by omega) (Nat.lt_of_le_of_lt h (by decide))
    show decide ((Str.ofString (toString i)).length ≤ 30) = true
    refine decide_eq_true ?_
    rw [ofString_length]; omega
  wt := by
    simp only [PyData.weight]
    split
    · omega
    · rename_i e
      have h1 : i.natAbs < 2 ^ 71 := Nat.lt_of_le_of_lt h (by decide)
      have e : i.natAbs ≠ 0 := by simpa using e
      have := (Nat.log2_lt e).2 h1
      omega
theorem Bd.all {α : Type} {f : α → PyData} {m : Nat} : ∀ {as : List α}, (∀ a ∈ as, Bd m (f a)) → PyData.showableAll (as.map f) = true ∧ PyData.hasDictAll (as.map f) = false ∧ PyData.leavesShortAll 30 (as.map f) = true ∧ PyData.weightAll (as.map f) ≤ as.length * (m + 1)
  | [], _ => ⟨rfl, rfl, rfl, by simp [PyData.weightAll]⟩
  | a :: as, h => by
    obtain ⟨h1, h2, h3, h4⟩ := Bd.all (as := as) fun b hb => h b (List.mem_cons_of_mem _ hb)
    have ha := h a List.mem_cons_self
    refine ⟨?_, ?_, ?_, ?_⟩
    · simp [PyData.showableAll, ha.sh, h1]
    · simp [PyData.hasDictAll, ha.nd, h2]
    · simp [PyData.leavesShortAll, ha.lf, h3]
    · have := ha.wt
      simp only [List.map_cons, PyData.weightAll, List.length_cons, Nat.add_mul, Nat.one_mul]
      omega
theorem bdL {α : Type} {f : α → PyData} {m n : Nat} {as : List α} (h : ∀ a ∈ as, Bd m (f a)) (hn : as.length ≤ n) : Bd (n * (m + 1)) (.list (as.map f)) := by
  obtain ⟨h1, h2, h3, h4⟩ := Bd.all h
  exact ⟨h1, h2, h3, Nat.le_trans h4 (Nat.mul_le_mul_right _ hn)⟩
theorem bdT {p q : PyData} {m n : Nat} (h1 : Bd m p) (h2 : Bd n q) : Bd (m + n + 2) (.tuple [p, q]) := by
  refine ⟨?_, ?_, ?_, ?_⟩
  · simp [PyData.showable, PyData.showableAll, h1.sh, h2.sh]
  · simp [PyData.hasDict, PyData.hasDictAll, h1.nd, h2.nd]
  · simp [PyData.leavesShort, PyData.leavesShortAll, h1.lf, h2.lf]
  · have := h1.wt; have := h2.wt
    simp only [PyData.weight, PyData.weightAll]; omega
theorem bdLL {p q : PyData} {m n : Nat} (h1 : Bd m p) (h2 : Bd n q) : Bd (m + n + 2) (.list [p, q]) := by
  refine ⟨?_, ?_, ?_, ?_⟩
  · simp [PyData.showable, PyData.showableAll, h1.sh, h2.sh]
  · simp [PyData.hasDict, PyData.hasDictAll, h1.nd, h2.nd]
  · simp [PyData.leavesShort, PyData.leavesShortAll, h1.lf, h2.lf]
  · have := h1.wt; have := h2.wt
    simp only [PyData.weight, PyData.weightAll]; omega
/-! papers -/
def PQ (q : Pr) : Prop := q.1.natAbs ≤ 10 ^ 21 ∧ q.2.natAbs ≤ 10 ^ 21
def PW (p : PR) : Prop := p.length ≤ 7 ∧ ∀ q ∈ p, PQ q
def PU (r : RU) : Prop := PW r.1 ∧ r.2.length ≤ 5 ∧ ∀ a ∈ r.2, PW a
def PZ (rs : List RU) : Prop := rs.length ≤ 70 ∧ ∀ r ∈ rs, PU r
theorem PU.sm {r : RU} (h : PU r) : smU r := ⟨by have := h.1.1; omega, by have := h.2.1; omega, fun a ha => by have := (h.2.2 a ha).1; omega⟩
theorem PW.bd {p : PR} (h : PW p) : Bd 1015 (pW p) := bdL (m := 144) (n := 7) (fun q hq => bdT (bdI (h.2 q hq).1) (bdI (h.2 q hq).2)) h.1
theorem PU.bd {r : RU} (h : PU r) : Bd 6097 (pU r) := bdT h.1.bd (bdL (m := 1015) (n := 5) (fun a ha => (h.2.2 a ha).bd) h.2.1)
theorem PZ.bd {rs : List RU} (h : PZ rs) : Bd 426860 (pZ rs) := bdL (m := 6097) (n := 70) (fun r hr => (h.2 r hr).bd) h.1
def ST : List (List Nat × Int) := [([], 12), ([2], 6), ([3], 4), ([4], 3), ([2, 2], 3), ([2, 3], 2), ([2, 4], 1), ([3, 2], 2), ([3, 3], 1), ([3, 4], 1), ([4, 2], 1), ([4, 3], 1), ([2, 2, 2], 1), ([2, 2, 3], 1), ([2, 3, 2], 1), ([3, 2, 2], 1)]
/-! fields -/
def nmOk (x : Str) : Bool := decide (x = Str.ofString "a") || decide (x = Str.ofString "bo") || decide (x = Str.ofString "cat")
structure FD (l : FL) : Prop where
  nm : ∀ q ∈ l, nmOk q.1 = true
  st : ∃ c, (wsF l, c) ∈ ST
  ne : l ≠ []
def pF2 (q : Str × Nat) : PyData := .tuple [.str q.1, .int (q.2 : Nat)]
def pF : FL → PyData := pL pF2
theorem bdS {x : Str} (h : nmOk x = true) : Bd 4 (.str x) := by
  simp only [nmOk, Bool.or_eq_true, decide_eq_true_eq] at h
  rcases h with (rfl | rfl) | rfl
  · exact ⟨by decide +kernel, by decide +kernel, by decide +kernel, by decide +kernel⟩
  · exact ⟨by decide +kernel, by decide +kernel, by decide +kernel, by decide +kernel⟩
  · exact ⟨by decide +kernel, by decide +kernel, by decide +kernel, by decide +kernel⟩
theorem FD.len {l : FL} (h : FD l) : l.length ≤ 3 := by
  obtain ⟨c, hc⟩ := h.st
  have := (by decide : ∀ p ∈ ST, p.1.length ≤ 3) _ hc
  simpa [wsF] using this
theorem FD.sz {l : FL} (h : FD l) : ∀ q ∈ l, q.2 ≤ 4 := by
  obtain ⟨c, hc⟩ := h.st
  intro q hq
  exact (by decide : ∀ p ∈ ST, ∀ n ∈ p.1, n ≤ 4) _ hc _ (List.mem_map.2 ⟨q, hq, rfl⟩)
theorem FD.bd {l : FL} (h : FD l) : Bd 234 (pF l) := bdL (m := 77) (n := 3) (fun q hq => bdT (bdS (h.nm q hq)) (bdI (by have := h.sz q hq; rw [Int.natAbs_natCast]; exact Nat.le_trans this (by decide)))) h.len
def pB (l : FL) (rs : List RU) : PyData := .list [pF l, pZ rs]
theorem bdB {l : FL} {rs : List RU} (h1 : FD l) (h2 : PZ rs) : Bd 427096 (pB l rs) := bdLL h1.bd h2.bd
theorem Bd.len {p : PyData} {m : Nat} (h : Bd m p) : p.shown.length ≤ 32 * m + 30 := by
  have h1 := PyData.shown_le 30 (by omega) p h.lf
  have h2 := Nat.mul_le_mul_left 32 h.wt
  omega
theorem dep_B (l : FL) (rs : List RU) : (pB l rs).depth ≤ 60 := by
  have h1 := codZ.dep rs
  have h2 : (pF l).depth ≤ 2 := by
    have := depL_map (f := pF2) (m := 1) (fun a => by simp [pF2, PyData.depth, PyData.depthAll]) l
    simp only [pF, pL, PyData.depth]; omega
  simp only [pB, PyData.depth, PyData.depthAll]
  omega
theorem toP_B (l : FL) (rs : List RU) : (D.lst false [eF l, eZ rs]).toP = some (pB l rs) := by
  have h1 : (eF l).toP = some (pF l) := by
    have := toPL_map (e := fl2) (f := pF2) (fun _ => rfl) l
    simp only [eF, eL, D.toP, this]; rfl
  simp only [D.toP, D.toPL, h1, codZ.toP]; rfl
section
variable {μ : Sto} {X : Str → List D → Sto → Prop}
theorem w_reprB {l : FL} {rs : List RU} {Q : D → Sto → Prop} (h1 : FD l) (h2 : PZ rs) : Wp (bltD .repr (.lst false [eF l, eZ rs])) μ Q X = Q (.str (pB l rs).shown) μ := by
  have hb := bdB h1 h2
  have hg : ((pB l rs).showable && !(pB l rs).hasDict && decide ((pB l rs).depth ≤ 60) && decide ((pB l rs).shown.length ≤ LINE)) = true := by
    have h3 := hb.len
    simp only [hb.sh, hb.nd, decide_eq_true (dep_B l rs), Bool.not_false, Bool.and_self, Bool.true_and]
    refine decide_eq_true ?_
    rw [line_eq]; omega
  show Wp (reprP (D.lst false [eF l, eZ rs]).toP) μ Q X = _
  rw [toP_B]
  show Wp (guard' ((pB l rs).showable && !(pB l rs).hasDict && decide ((pB l rs).depth ≤ 60) && decide ((pB l rs).shown.length ≤ LINE)) (M.ret (.str (pB l rs).shown))) μ Q X = _
  rw [hg, wp_guard, wp_ret]; simp
theorem w_eqSS {x : Str} {Q : D → Sto → Prop} : Wp (cmpD .eq (.str x) (.str x)) μ Q X = Q (.bl true) μ := by
  have h1 : D.eqD (.str x) (.str x) = some true := by
    simp only [D.eqD, D.toP]
    split
    · rw [Option.some.injEq]; simp [PyData.eqv]
    · simp [eqS]
  simp only [cmpD, h1, Option.map, wp_some]
variable {Q : D → Sto → Prop}
end
/-! QA -/
def stepP (found : List Row) (n : Nat) : List Row := found.flatMap fun p => (List.range n).map fun w => p ++ [((w : Nat) : Int)]
def pcs (ws : List Nat) : List Row := ws.foldl stepP [[]]
theorem foldl_take {α β : Type} (f : β → α → β) (b : β) (l : List α) (i : Nat) (h : i < l.length) : (l.take (i + 1)).foldl f b = f ((l.take i).foldl f b) l[i] := by
  rw [List.take_succ_eq_append_getElem h, List.foldl_append]; rfl
theorem pcs_take {ws : List Nat} {i : Nat} (h : i < ws.length) : pcs (ws.take (i + 1)) = stepP (pcs (ws.take i)) ws[i] := foldl_take stepP [[]] ws i h
theorem FD.pc {l : FL} (h : FD l) (i : Nat) (hi : i ≤ l.length) : (pcs ((wsF l).take i)).length ≤ 12 := by
  obtain ⟨c, hc⟩ := h.st
  have := h.len
  exact (by decide : ∀ p ∈ ST, ∀ i ∈ [0, 1, 2, 3], (pcs (p.1.take i)).length ≤ 12) _ hc i (by simp; omega)
theorem FD.pc0 {l : FL} (h : FD l) : (pcs (wsF l)).length ≤ 12 := by
  have := h.pc l.length (Nat.le_refl _)
  rwa [List.take_of_length_le (by simp [wsF])] at this
theorem FD.pos {l : FL} (h : FD l) : 0 < (pcs (wsF l)).length := by
  obtain ⟨c, hc⟩ := h.st
  exact (by decide : ∀ p ∈ ST, 0 < (pcs p.1).length) _ hc
theorem FD.plen {l : FL} (h : FD l) : ∀ p ∈ pcs (wsF l), p.length = l.length := by
  obtain ⟨c, hc⟩ := h.st
  intro p hp
  have := (by decide : ∀ e ∈ ST, ∀ p ∈ pcs e.1, p.length = e.1.length) _ hc p hp
  simpa [wsF] using this
theorem FD.pl {l : FL} (h : FD l) (i : Nat) (hi : i ≤ l.length) : ∀ p ∈ pcs ((wsF l).take i), p.length ≤ 3 := by
  obtain ⟨c, hc⟩ := h.st
  have := h.len
  exact (by decide : ∀ p ∈ ST, ∀ i ∈ [0, 1, 2, 3], ∀ q ∈ pcs (p.1.take i), q.length ≤ 3) _ hc i (by simp; omega)
theorem wsF_get (l : FL) (i : Nat) (h : i < l.length) : (wsF l)[i]'(by simpa [wsF] using h) = l[i].2 := by simp [wsF]
section
variable {μ : Sto} {X : Str → List D → Sto → Prop}
theorem wp_foldT {α : Type} {f : D → List D → M (List D)} (e : α → D) (g : α → List D) {X : Str → List D → Sto → Prop} : ∀ (as : List α) (acc : List D) (Q : List D → Sto → Prop),
    (∀ a ∈ as, ∀ acc Q, acc.length ≤ 10000 → Q (acc ++ g a) μ → Wp (f (e a) acc) μ Q X) → acc.length + (as.map fun a => (g a).length).sum ≤ 10000 → Q (acc ++ as.flatMap g) μ → Wp (foldC f (as.map e) acc) μ Q X
  | [], acc, Q, hf, hl, hq => by simpa [foldC, wp_ret] using hq
  | x :: xs, acc, Q, hf, hl, hq => by
    rw [List.map_cons, foldC, wp_bind]
    simp only [List.map_cons, List.sum_cons] at hl
    refine hf x List.mem_cons_self acc _ (by omega) ?_
    exact wp_foldT e g xs (acc ++ g x) Q (fun y hy => hf y (List.mem_cons_of_mem _ hy)) (by simp; omega) (by simpa using hq)
theorem sum_const {α : Type} (c : Nat) : ∀ as : List α, (as.map fun _ => c).sum = as.length * c
  | [] => by simp
  | a :: as => by simp [sum_const c as, Nat.add_mul]; omega
theorem eX_snoc (p : Row) (w : Int) : D.tup (p.map .int ++ [.int w]) = eX (p ++ [w]) := by simp [eX]
theorem map_step (found : List Row) (n : Nat) : (stepP found n).map eX = found.flatMap fun p => (List.range n).map fun w : Nat => eX (p ++ [(w : Int)]) := by
  unfold stepP
  rw [List.map_flatMap]
  congr; funext p; rw [List.map_map]; rfl
theorem s_all_parcels {k : Nat} {l : FL} (hk : 1 ≤ k) (hl : FD l) : Wp (run pp k (Str.ofString "all_parcels") [eF l]) μ (Pu (· = .lst false ((pcs (wsF l)).map eX)) μ) X := by
  obtain ⟨k, rfl⟩ : ∃ j, k = j + 1 := ⟨k - 1, by omega⟩
  have f1 := nbL_map frzF2 l
  have hlen := hl.len
  rw [e_all_parcels]
  simp_arith [P85.f_all_parcels, u_F, f1.1, f1.2]
  refine wp_for (fun _ _ => False) _ (fun i ρ μ' => μ' = μ ∧ ∃ r2 r3, ρ = [some (.lst false (l.map fl2)), some (.lst false ((pcs ((wsF l).take i)).map eX)), r2, r3, none, none]) _ _ ⟨rfl, none, none, rfl⟩ ?_ ?_ (fun _ _ h => h.elim)
  · rintro i hi _ μ1 ⟨hμ, r2, r3, rfl⟩
    subst hμ
    have hi' : i < l.length := by simpa using hi
    have hsz := hl.sz l[i] (List.getElem_mem hi')
    have hpc := hl.pc i (by omega)
    have hpc2 := hl.pc (i + 1) (by omega)
    have hw := wsF_get l i hi'
    have f2 := nbL_map frzX (pcs ((wsF l).take i))
    simp only [List.getElem_map]
    rw [show fl2 l[i] = .tup [.str l[i].1, .int (l[i].2 : Nat)] from rfl]
    simp_arith [w_lc2, f2.1, f2.2]
    refine wp_foldT eX (fun p => (List.range l[i].2).map fun w : Nat => eX (p ++ [((w : Nat) : Int)])) _ [] _ ?_ ?_ ?_
    · intro p hp acc Q hacc hq
      simp_arith [w_bd2]
      refine ⟨by omega, ?_⟩
      rw [show ((l[i].2 : Int) - 0).toNat = l[i].2 by omega]
      refine wp_mapV (fun w : Nat => D.int (0 + (w : Int))) (fun w : Nat => eX (p ++ [(w : Int)])) (List.range l[i].2) acc _ (by simp [line_eq]; omega) ?_ hq
      intro w hw
      have f3 := nbL_map frzI p
      simp_arith [u_X, f3.1, f3.2]
      have hpl := hl.pl i (by omega) p hp
      refine ⟨by simp [line_eq]; omega, ?_⟩
      rw [show (0 : Int) + (w : Nat) = (w : Int) by omega]
      simp
    · simp only [List.length_map, List.length_range, List.length_nil, sum_const]
      have := Nat.mul_le_mul hpc hsz
      omega
    · rw [List.nil_append, ← map_step, ← hw, ← pcs_take (by simpa [wsF] using hi')]
      simp_arith [(nbL_map frzX (pcs ((wsF l).take (i + 1)))).2]
      exact ⟨_, _, rfl⟩
  · rintro _ μ1 ⟨hμ, r2, r3, rfl⟩
    subst hμ
    rw [List.length_map, List.take_of_length_le (by simp [wsF])]
    have f2 := nbL_map frzX (pcs (wsF l))
    simp_arith [f2.1, f2.2]
theorem s_law_parcels {k : Nat} {l : FL} (hk : 1 ≤ k) (hl : FD l) : Wp (run pp k (Str.ofString "_law_parcels") [eF l]) μ (Pu (· = .lst false ((pcs (wsF l)).map eX)) μ) X := by
  obtain ⟨k, rfl⟩ : ∃ j, k = j + 1 := ⟨k - 1, by omega⟩
  have f1 := nbL_map frzF2 l
  have hlen := hl.len
  rw [e__law_parcels]
  simp_arith [P85.f__law_parcels, u_F, f1.1, f1.2]
  refine wp_for (fun _ _ => False) _ (fun i ρ μ' => μ' = μ ∧ ∃ r2 r3 r4 r5, ρ = [some (.lst false (l.map fl2)), some (.lst false ((pcs ((wsF l).take i)).map eX)), r2, r3, r4, r5, none]) _ _ ⟨rfl, none, none, none, none, rfl⟩ ?_ ?_ (fun _ _ h => h.elim)
  · rintro i hi _ μ1 ⟨hμ, r2, r3, r4, r5, rfl⟩
    subst hμ
    have hi' : i < l.length := by simpa using hi
    have hsz := hl.sz l[i] (List.getElem_mem hi')
    have hpc := hl.pc i (by omega)
    have hpc2 := hl.pc (i + 1) (by omega)
    have hw := wsF_get l i hi'
    have hps := pcs_take (ws := wsF l) (i := i) (by simpa [wsF] using hi')
    have hpl := hl.pl i (by omega)
    rw [hw] at hps
    generalize hP : pcs ((wsF l).take i) = P at *
    have f2 := nbL_map frzX P
    simp only [List.getElem_map]
    rw [show fl2 l[i] = .tup [.str l[i].1, .int (l[i].2 : Nat)] from rfl]
    simp_arith [f2.1, f2.2]
    refine wp_for (fun _ _ => False) _ (fun j ρ μ' => μ' = μ1 ∧ ∃ r5, ρ = [some (.lst false (l.map fl2)), some (.lst false (P.map eX)), some (.str l[i].1), some (.int (l[i].2 : Nat)), some (.lst false ((stepP (P.take j) l[i].2).map eX)), r5, none]) _ _ ⟨rfl, r5, rfl⟩ ?_ ?_ (fun _ _ h => h.elim)
    · rintro j hj _ μ2 ⟨hμ, r5, rfl⟩
      subst hμ
      have hj' : j < P.length := by simpa using hj
      have f3 := nbL_map frzX (stepP (P.take j) l[i].2)
      have fx := frzX P[j]
      simp only [List.getElem_map]
      simp_arith [f3.1, f3.2, fx.1, fx.2]
      refine ⟨by omega, ?_⟩
      rw [show ((l[i].2 : Int) - 0).toNat = l[i].2 by omega]
      have hp3 := hpl P[j] (List.getElem_mem hj')
      refine wp_mapV (fun w : Nat => D.int (0 + (w : Int))) (fun w : Nat => eX (P[j] ++ [(w : Int)])) (List.range l[i].2) [] _ (by simp [line_eq]; omega) ?_ ?_
      · intro w hw
        have f3 := nbL_map frzI P[j]
        simp_arith [u_X, f3.1, f3.2]
        refine ⟨by simp [line_eq]; omega, ?_⟩
        rw [show (0 : Int) + (w : Nat) = (w : Int) by omega]
        simp
      · have f4 := nbL_map (e := fun w : Nat => eX (P[j] ++ [(w : Int)])) (fun _ => frzX _) (List.range l[i].2)
        have hsl : (stepP (P.take j) l[i].2).length ≤ 48 := by
          rw [stepP, List.length_flatMap]
          simp only [List.length_map, List.length_range, sum_const, List.length_take]
          have := Nat.mul_le_mul (show min j P.length ≤ 12 by omega) hsz
          omega
        have hst : stepP (P.take (j + 1)) l[i].2 = stepP (P.take j) l[i].2 ++ (List.range l[i].2).map fun w : Nat => P[j] ++ [(w : Int)] := by
          rw [List.take_succ_eq_append_getElem hj', stepP, List.flatMap_append]
          simp [stepP]
        simp_arith [f4.2, fzL_app, f3.2]
        refine ⟨by simp [line_eq]; omega, some (eX P[j]), ?_⟩
        rw [hst, List.map_append, List.map_map]
        rfl
    · rintro _ μ2 ⟨hμ, r5, rfl⟩
      subst hμ
      rw [List.length_map, List.take_length, ← hps]
      have f5 := nbL_map frzX (pcs ((wsF l).take (i + 1)))
      simp_arith [f5.1, f5.2]
      exact ⟨_, _, _, _, rfl⟩
  · rintro _ μ1 ⟨hμ, r2, r3, r4, r5, rfl⟩
    subst hμ
    rw [List.length_map, List.take_of_length_le (by simp [wsF])]
    have f2 := nbL_map frzX (pcs (wsF l))
    simp_arith [f2.1, f2.2]
/-! numbers -/
def numW (ws : List Nat) (p : Row) : Int := (ws.zip p).foldl (fun a q => a * (q.1 : Int) + q.2) 0
theorem w_zipLT {QL : List D → Sto → Prop} {a : Bool} {xs ys : List D} : Wp (zipK (.lst a xs) (.tup ys)) μ QL X = QL (zipD xs ys) μ := by
  rw [show zipK (.lst a xs) (.tup ys) = M.ret (zipD xs ys) from rfl, wp_ret]
theorem zipD_get : ∀ (xs ys : List D) (i : Nat) (h : i < (zipD xs ys).length) (h1 : i < xs.length) (h2 : i < ys.length), (zipD xs ys)[i] = .tup [xs[i], ys[i]]
  | x :: xs, y :: ys, 0, _, _, _ => rfl
  | x :: xs, y :: ys, i + 1, h, h1, h2 => by
    have := zipD_get xs ys i (by simpa [zipD] using h) (by simpa using h1) (by simpa using h2)
    simp only [zipD, List.getElem_cons_succ, this]
  | [], _, i, h, h1, _ => by simp at h1
  | _ :: _, [], i, _, _, h2 => by simp at h2
theorem zip_take {α β : Type} : ∀ (xs : List α) (ys : List β) (i : Nat), (xs.take i).zip (ys.take i) = (xs.zip ys).take i
  | _, _, 0 => by simp
  | [], _, _ + 1 => by simp
  | _ :: _, [], _ + 1 => by simp
  | x :: xs, y :: ys, i + 1 => by simp [zip_take xs ys i]
theorem num_take {ws : List Nat} {p : Row} {i : Nat} (h1 : i < ws.length) (h2 : i < p.length) : numW (ws.take (i + 1)) (p.take (i + 1)) = numW (ws.take i) (p.take i) * (ws[i] : Int) + p[i] := by
  have h : i < (ws.zip p).length := by simp; omega
  have := foldl_take (fun (a : Int) (q : Nat × Int) => a * (q.1 : Int) + q.2) 0 (ws.zip p) i h
  simp only [numW, zip_take]
  rw [this]
  simp
theorem b64n {n : Nat} (h : n ≤ 4) : -B64 < (n : Int) ∧ (n : Int) < B64 := by simp only [B64]; omega
theorem s_number {k : Nat} {l : FL} {p : Row} (hk : 1 ≤ k) (hl : FD l) (hp : p.length = l.length) : Wp (run pp k (Str.ofString "number_of_parcel") [eF l, eX p]) μ (fun d μ' => μ' = μ ∧ d = .int (numW (wsF l) p)) X := by
  obtain ⟨k, rfl⟩ : ∃ j, k = j + 1 := ⟨k - 1, by omega⟩
  have f1 := nbL_map frzF2 l
  have f2 := nbL_map frzI p
  rw [e_number_of_parcel]
  simp_arith [P85.f_number_of_parcel, u_F, u_X, f1.1, f1.2, f2.1, f2.2, w_zipLT]
  refine wp_for (fun _ _ => False) _ (fun i ρ μ' => μ' = μ ∧ ∃ r3 r4 r5, ρ = [some (.lst false (l.map fl2)), some (.tup (p.map .int)), some (.int (numW ((wsF l).take i) (p.take i))), r3, r4, r5]) _ _ ⟨rfl, none, none, none, rfl⟩ ?_ ?_ (fun _ _ h => h.elim)
  · rintro i hi _ μ1 ⟨hμ, r3, r4, r5, rfl⟩
    subst hμ
    have hi' : i < l.length := by rw [len_zipD] at hi; simp at hi; omega
    have hsz := hl.sz l[i] (List.getElem_mem hi')
    rw [zipD_get _ _ i hi (by simpa using hi') (by simp; omega)]
    simp only [List.getElem_map]
    rw [show fl2 l[i] = .tup [.str l[i].1, .int (l[i].2 : Nat)] from rfl]
    simp_arith []
    refine ⟨.inr (b64n hsz), some (.str l[i].1), some (.int (l[i].2 : Nat)), some (.int (p[i]'(by omega))), ?_⟩
    rw [num_take (by simpa [wsF] using hi') (by omega), wsF_get l i hi']
  · rintro _ μ1 ⟨hμ, r3, r4, r5, rfl⟩
    subst hμ
    rw [len_zipD]
    simp_arith []
    rw [List.take_of_length_le (by rw [wsF_len]; omega), List.take_of_length_le (by omega)]
theorem s_law_number {k : Nat} {l : FL} {p : Row} (hk : 1 ≤ k) (hl : FD l) (hp : p.length = l.length) : Wp (run pp k (Str.ofString "_law_number") [eF l, eX p]) μ (fun d μ' => μ' = μ ∧ d = .int (numW (wsF l) p)) X := by
  obtain ⟨k, rfl⟩ : ∃ j, k = j + 1 := ⟨k - 1, by omega⟩
  have f1 := nbL_map frzF2 l
  have f2 := nbL_map frzI p
  have hlen := hl.len
  rw [e__law_number]
  simp_arith [P85.f__law_number, u_F, u_X, f1.1, f1.2, f2.1, f2.2]
  refine ⟨by omega, ?_⟩
  rw [show ((l.length : Int) - 0).toNat = l.length by omega]
  refine wp_for (fun _ _ => False) _ (fun i ρ μ' => μ' = μ ∧ ∃ r3, ρ = [some (.lst false (l.map fl2)), some (.tup (p.map .int)), some (.int (numW ((wsF l).take i) (p.take i))), r3]) _ _ ⟨rfl, none, rfl⟩ ?_ ?_ (fun _ _ h => h.elim)
  · rintro i hi _ μ1 ⟨hμ, r3, rfl⟩
    subst hμ
    have hi' : i < l.length := by simpa using hi
    have hsz := hl.sz l[i] (List.getElem_mem hi')
    have g1 := eL_get fl2 l i hi'
    have g2 := eL_get D.int p i (by omega)
    simp only [List.getElem_map, List.getElem_range]
    rw [show ((0 : Int) + (i : Nat)) = (i : Int) by omega]
    rw [show fl2 l[i] = .tup [.str l[i].1, .int (l[i].2 : Nat)] from rfl] at g1
    simp_arith [f1.1, f1.2, f2.1, f2.2, g1, g2, atI_1]
    refine ⟨.inr (b64n hsz), some (.int (i : Nat)), ?_⟩
    rw [num_take (by simpa [wsF] using hi') (by omega), wsF_get l i hi']
  · rintro _ μ1 ⟨hμ, r3, rfl⟩
    subst hμ
    rw [List.length_map, List.length_range]
    simp_arith []
    rw [List.take_of_length_le (by simp [wsF]), List.take_of_length_le (by omega)]
end
/-! QB -/
/-! rules that are drawn -/
def DP (ws : List Nat) (q : Pr) : Prop := 0 ≤ q.1 ∧ q.1 < (ws.length : Int) ∧ 0 ≤ q.2 ∧ q.2 < szW ws q.1
def DW (ws : List Nat) (p : PR) : Prop := p.length ≤ 3 ∧ ∀ q ∈ p, DP ws q
def DU (ws : List Nat) (r : RU) : Prop := DW ws r.1 ∧ r.2.length ≤ 2 ∧ ∀ a ∈ r.2, DW ws a
def DZ (ws : List Nat) (rs : List RU) : Prop := rs.length ≤ 20 ∧ ∀ r ∈ rs, DU ws r
def fits (p : Row) (m : PR) : Bool := m.all fun q => decide (p.getD q.1.toNat 0 = q.2)
def metL (rs : List RU) (p : Row) : List Nat := (List.range rs.length).filter fun k => fits p (rs.getD k ([], [])).1
def metD (rs : List RU) (p : Row) : D := match metL rs p with
  | k :: _ => .int (k : Nat)
  | [] => .non
theorem filt_first {f : Nat → Bool} {n i : Nat} (hi : i < n) (h : ∀ j, j < i → f j = false) (hb : f i = true) : ∃ js, (List.range n).filter f = i :: js := by
  obtain ⟨m, hm⟩ : ∃ m, n = i + (m + 1) := ⟨n - i - 1, by omega⟩
  have h0 : (List.range i).filter f = [] := List.filter_eq_nil_iff.2 fun j hj => by
    rw [h j (List.mem_range.1 hj)]; simp
  rw [hm, List.range_add, List.filter_append, h0, List.nil_append, List.range_succ_eq_map, List.map_cons, List.filter_cons]
  rw [Nat.add_zero, hb]
  exact ⟨_, rfl⟩
theorem filt_nil {f : Nat → Bool} {n : Nat} (h : ∀ j, j < n → f j = false) : (List.range n).filter f = [] := List.filter_eq_nil_iff.2 fun j hj => by
  rw [h j (List.mem_range.1 hj)]; simp
theorem getD_mem {α : Type} {rs : List α} {i : Nat} {d : α} (h : i < rs.length) : rs.getD i d ∈ rs := by
  have : rs.getD i d = rs[i] := by simp [h]
  rw [this]; exact List.getElem_mem h
theorem metL_mem {rs : List RU} {p : Row} {k : Nat} {ks : List Nat} (h : metL rs p = k :: ks) : k < rs.length := by
  have : k ∈ metL rs p := by rw [h]; exact List.mem_cons_self
  exact List.mem_range.1 (List.mem_filter.1 this).1
section
variable {μ : Sto} {X : Str → List D → Sto → Prop}
theorem row_at {p : Row} {f : Int} (h0 : 0 ≤ f) (h1 : f < p.length) : L2.atI (p.map D.int) f = some (.int (p.getD f.toNat 0)) := by
  obtain ⟨i, rfl⟩ : ∃ i : Nat, f = i := ⟨f.toNat, by omega⟩
  rw [eL_getD D.int p 0 i (by omega)]; rfl
theorem s_has_worths {k : Nat} {l : FL} {p : Row} {m : PR} (hk : 1 ≤ k) (hp : p.length = l.length) (hm : DW (wsF l) m) : Wp (run pp k (Str.ofString "has_worths") [eX p, eW m]) μ (fun d μ' => μ' = μ ∧ d = .bl (fits p m)) X := by
  obtain ⟨k, rfl⟩ : ∃ j, k = j + 1 := ⟨k - 1, by omega⟩
  have f1 := nbL_map frzI p
  have f2 := nbL_map frzP m
  rw [e_has_worths]
  simp_arith [P85.f_has_worths, u_X, u_W, f1.1, f1.2, f2.1, f2.2]
  refine wp_mapV eP (fun q => .bl (decide (p.getD q.1.toNat 0 = q.2))) m [] _ (by have := hm.1; simp [line_eq]; omega) ?_ ?_
  · intro q hq
    obtain ⟨h0, h1, _⟩ := hm.2 q hq
    rw [wsF_len] at h1
    simp_arith [u_P, f1.1, f1.2, row_at (p := p) h0 (by omega), w_eqi]
  · rw [List.nil_append, show m.map (fun q => D.bl (decide (p.getD q.1.toNat 0 = q.2))) = (m.map fun q => decide (p.getD q.1.toNat 0 = q.2)).map D.bl by simp]
    simp_arith [bls_fz, w_all]
    simp [fits, List.all_map, Function.comp_def]
theorem num_getU (rs : List RU) (i : Nat) (h : i < (num 0 (rs.map eU)).length) : (num 0 (rs.map eU))[i] = .tup [.int (i : Nat), eU (rs.getD i ([], []))] := by
  have hi : i < rs.length := by simpa [len_num] using h
  rw [num_get]; simp [hi]
theorem s_rule_met {k : Nat} {l : FL} {p : Row} {rs : List RU} (hk : 2 ≤ k) (hp : p.length = l.length) (hr : DZ (wsF l) rs) : Wp (run pp k (Str.ofString "rule_met") [eZ rs, eX p]) μ (fun d μ' => μ' = μ ∧ d = metD rs p) X := by
  obtain ⟨k, rfl⟩ : ∃ j, k = j + 2 := ⟨k - 2, by omega⟩
  have f1 := frzX p
  have f2 := nbL_map frzU rs
  rw [e_rule_met]
  simp_arith [P85.f_rule_met, u_Z, f2.1, f2.2]
  refine wp_for (fun d μ' => μ' = μ ∧ d = metD rs p) _ (fun i ρ μ' => μ' = μ ∧ (∀ j, j < i → fits p (rs.getD j ([], [])).1 = false) ∧ ∃ r2 r3 r4, ρ = [some (.lst false (rs.map eU)), some (eX p), r2, r3, r4]) _ _ ⟨rfl, by omega, none, none, none, rfl⟩ ?_ ?_ ?_
  · rintro i hi _ μ1 ⟨hμ, ha, r2, r3, r4, rfl⟩
    subst hμ
    have hi' : i < rs.length := by simpa [len_num] using hi
    rw [num_getU]
    have hu := hr.2 _ (getD_mem (d := ([], [])) hi')
    generalize hr' : rs.getD i ([], []) = r at hu
    simp_arith [u_U, (frzW r.1).1, (frzW r.1).2, (frzA r.2).1, (frzA r.2).2, f1.1, f1.2]
    refine (s_has_worths (by omega) hp hu.1).mono ?_
    rintro d μ2 ⟨hμ, hd⟩
    subst hμ; subst hd
    simp_arith []
    cases hb : fits p r.1 with
    | true =>
      simp_arith []
      obtain ⟨js, hjs⟩ := filt_first (f := fun k => fits p (rs.getD k ([], [])).1) hi' ha (by show fits p (rs.getD i ([], [])).1 = true; rw [hr']; exact hb)
      simp only [metD, metL, hjs]
    | false =>
      simp_arith []
      refine ⟨fun j hj => ?_, _, _, _, rfl⟩
      by_cases e : j = i
      · rw [e, hr']; exact hb
      · exact ha j (by omega)
  · rintro _ μ1 ⟨hμ, ha, r2, r3, r4, rfl⟩
    subst hμ
    simp_arith []
    have := filt_nil (f := fun k => fits p (rs.getD k ([], [])).1) (n := rs.length) fun j hj => ha j (by simpa [len_num] using hj)
    simp only [metD, metL, this]
  · rintro d μ1 ⟨hμ, hd⟩
    simp_arith [hμ, hd]
/-! other worths -/
def withW (p : Row) (a : PR) : Row := a.foldl (fun p q => p.set q.1.toNat q.2) p
theorem withW_len (p : Row) (a : PR) : (withW p a).length = p.length := by
  induction a generalizing p with
  | nil => rfl
  | cons q a ih => simp [withW, List.foldl_cons] at ih ⊢; rw [ih]; simp
theorem withW_take (p : Row) (a : PR) (i : Nat) (h : i < a.length) : withW p (a.take (i + 1)) = (withW p (a.take i)).set a[i].1.toNat a[i].2 := foldl_take (fun (p : Row) (q : Pr) => p.set q.1.toNat q.2) p a i h
theorem cut_lo {p : Row} {f : Int} (h0 : 0 ≤ f) (h1 : f < p.length) : cutD (p.map D.int) none (some f) = (p.take f.toNat).map D.int := by
  obtain ⟨i, rfl⟩ : ∃ i : Nat, f = i := ⟨f.toNat, by omega⟩
  simp [cutD, HT.sIx]
  rw [if_neg (by omega)]
  omega
theorem cut_hi {p : Row} {f : Int} (h0 : 0 ≤ f) (h1 : f < p.length) : cutD (p.map D.int) (some (f + 1)) none = (p.drop (f.toNat + 1)).map D.int := by
  obtain ⟨i, rfl⟩ : ∃ i : Nat, f = i := ⟨f.toNat, by omega⟩
  simp [cutD, HT.sIx]
  rw [if_neg (by omega), Nat.min_eq_left (by omega), List.take_of_length_le (by simp)]
theorem s_with_worth {k : Nat} {p : Row} {f w : Int} (hk : 1 ≤ k) (hp : p.length ≤ 100) (h0 : 0 ≤ f) (h1 : f < p.length) : Wp (run pp k (Str.ofString "with_worth") [eX p, .int f, .int w]) μ (fun d μ' => μ' = μ ∧ d = eX (p.set f.toNat w)) X := by
  obtain ⟨k, rfl⟩ : ∃ j, k = j + 1 := ⟨k - 1, by omega⟩
  have f1 := nbL_map frzI p
  have f2 := nbL_map frzI (p.take f.toNat)
  have f3 := nbL_map frzI (p.drop (f.toNat + 1))
  rw [e_with_worth]
  simp_arith [P85.f_with_worth, u_X, f1.1, f1.2, cut_lo h0 h1, cut_hi h0 h1, f2.1, f2.2, f3.1, f3.2, fzL_app]
  refine ⟨by simp [line_eq]; omega, by simp [line_eq]; omega, ?_⟩
  rw [List.set_eq_take_append_cons_drop, if_pos (by omega)]
  simp
theorem s_with_worths {k : Nat} {l : FL} {p : Row} {a : PR} (hk : 2 ≤ k) (hp : p.length = l.length) (hl : l.length ≤ 3) (ha : DW (wsF l) a) : Wp (run pp k (Str.ofString "with_worths") [eX p, eW a]) μ (fun d μ' => μ' = μ ∧ d = eX (withW p a)) X := by
  obtain ⟨k, rfl⟩ : ∃ j, k = j + 2 := ⟨k - 2, by omega⟩
  have f1 := frzX p
  have f2 := nbL_map frzP a
  rw [e_with_worths]
  simp_arith [P85.f_with_worths, u_W, f1.1, f1.2, f2.1, f2.2]
  refine wp_for (fun _ _ => False) _ (fun i ρ μ' => μ' = μ ∧ ∃ r3 r4, ρ = [some (eX p), some (.lst false (a.map eP)), some (eX (withW p (a.take i))), r3, r4]) _ _ ⟨rfl, none, none, rfl⟩ ?_ ?_ (fun _ _ h => h.elim)
  · rintro i hi _ μ1 ⟨hμ, r3, r4, rfl⟩
    subst hμ
    have hi' : i < a.length := by simpa using hi
    obtain ⟨h0, h1, _⟩ := ha.2 a[i] (List.getElem_mem hi')
    rw [wsF_len] at h1
    have f3 := frzX (withW p (a.take i))
    have hwl := withW_len p (a.take i)
    simp only [List.getElem_map]
    simp_arith [u_P, f3.1, f3.2]
    refine (s_with_worth (by omega) (by omega) h0 (by omega)).mono ?_
    rintro d μ2 ⟨hμ, hd⟩
    subst hμ; subst hd
    rw [← withW_take p a i hi']
    have f4 := frzX (withW p (a.take (i + 1)))
    simp_arith [f4.2]
    exact ⟨_, _, rfl⟩
  · rintro _ μ1 ⟨hμ, r3, r4, rfl⟩
    subst hμ
    rw [List.length_map, List.take_length]
    have f3 := frzX (withW p a)
    simp_arith [f3.1, f3.2]
/-! what numbers come -/
def keysF (ws : List Nat) (p : Row) (acts : List PR) : List Int := acts.foldl (fun ks a => addK (numW ws (withW p a)) ks) []
theorem keys_take (ws : List Nat) (p : Row) (as : List PR) (i : Nat) (h : i < as.length) : keysF ws p (as.take (i + 1)) = addK (numW ws (withW p as[i])) (keysF ws p (as.take i)) := foldl_take (fun ks a => addK (numW ws (withW p a)) ks) [] as i h
theorem addK_len (x : Int) (ks : List Int) : (addK x ks).length ≤ ks.length + 1 := by
  unfold addK; split <;> simp
theorem keys_len (ws : List Nat) (p : Row) : ∀ (i : Nat) (as : List PR), i ≤ as.length → (keysF ws p (as.take i)).length ≤ i
  | 0, as, _ => by simp [keysF]
  | i + 1, as, h => by
    rw [keys_take ws p as i (by omega)]
    have h1 := addK_len (numW ws (withW p as[i])) (keysF ws p (as.take i))
    have h2 := keys_len ws p i as (by omega)
    omega
def numsF (ws : List Nat) (rs : List RU) (p : Row) : Row := match metL rs p with
  | k :: _ => isort (keysF ws p (rs.getD k ([], [])).2)
  | [] => []
theorem s_numbers_by_acts {k : Nat} {l : FL} {p : Row} {as : List PR} (hk : 3 ≤ k) (hl : FD l) (hp : p.length = l.length) (hs : as.length ≤ 20) (ha : ∀ a ∈ as, DW (wsF l) a) : Wp (run pp k (Str.ofString "numbers_by_acts") [eF l, eX p, eA as]) μ (fun d μ' => μ' = μ ∧ d = .lst true ((isort (keysF (wsF l) p as)).map .int)) X := by
  obtain ⟨k, rfl⟩ : ∃ j, k = j + 3 := ⟨k - 3, by omega⟩
  have f0 := frzF l
  have f1 := frzX p
  have f2 := nbL_map frzW as
  have hlen := hl.len
  rw [e_numbers_by_acts]
  simp_arith [P85.f_numbers_by_acts, u_A, f0.1, f0.2, f1.1, f1.2, f2.1, f2.2]
  refine wp_for (fun _ _ => False) _ (fun i ρ μ' => μ' = μ ∧ ∃ r4, ρ = [some (eF l), some (eX p), some (.lst false (as.map eW)), some (DK (keysF (wsF l) p (as.take i))), r4]) _ _ ⟨rfl, none, rfl⟩ ?_ ?_ (fun _ _ h => h.elim)
  · rintro i hi _ μ1 ⟨hμ, r4, rfl⟩
    subst hμ
    have hi' : i < as.length := by simpa using hi
    have hda := ha as[i] (List.getElem_mem hi')
    have f3 := frzW as[i]
    have hwl := withW_len p as[i]
    have f4 := frzX (withW p as[i])
    have hkl := keys_len (wsF l) p i as (by omega)
    simp only [List.getElem_map]
    simp_arith [f0.1, f0.2, f1.1, f1.2, f3.1, f3.2]
    refine (s_with_worths (by omega) hp hlen hda).mono ?_
    rintro d μ2 ⟨hμ, hd⟩
    subst hμ; subst hd
    simp_arith [f4.1, f4.2]
    refine (s_number (by omega) hl (by omega)).mono ?_
    rintro d μ3 ⟨hμ, hd⟩
    subst hμ; subst hd
    simp_arith [w_putDK]
    refine ⟨by simp [line_eq]; omega, some (eW as[i]), ?_⟩
    rw [keys_take (wsF l) p as i hi']
  · rintro _ μ1 ⟨hμ, r4, rfl⟩
    subst hμ
    rw [List.length_map, List.take_length]
    have hkl := keys_len (wsF l) p as.length as (Nat.le_refl _)
    rw [List.take_length] at hkl
    simp_arith [inb_DK, w_sortedDK]
    omega
theorem s_numbers_by_rules {k : Nat} {l : FL} {p : Row} {rs : List RU} (hk : 4 ≤ k) (hl : FD l) (hp : p.length = l.length) (hr : DZ (wsF l) rs) : Wp (run pp k (Str.ofString "numbers_by_rules") [eF l, eZ rs, eX p]) μ (fun d μ' => μ' = μ ∧ d = .lst true ((numsF (wsF l) rs p).map .int)) X := by
  obtain ⟨k, rfl⟩ : ∃ j, k = j + 4 := ⟨k - 4, by omega⟩
  have f0 := frzF l
  have f1 := frzX p
  have f2 := nbL_map frzU rs
  have f3 := frzZ rs
  rw [e_numbers_by_rules]
  simp_arith [P85.f_numbers_by_rules, f0.1, f0.2, f1.1, f1.2, f3.1, f3.2]
  refine (s_rule_met (by omega) hp hr).mono ?_
  rintro d μ1 ⟨hμ, hd⟩
  subst hμ; subst hd
  cases hm : metL rs p with
  | nil =>
    simp only [metD, hm]
    simp_arith [w_isNnon]
    simp [numsF, hm]
  | cons j js =>
    have hj := metL_mem hm
    have hu := hr.2 _ (getD_mem (d := ([], [])) hj)
    have g1 := eL_getD eU rs ([], []) j hj
    simp only [metD, hm, numsF]
    generalize hr' : rs.getD j ([], []) = r at hu g1
    rw [u_U] at g1
    simp_arith [w_isNi, f0.1, f0.2, f1.1, f1.2, u_Z, f2.1, f2.2, g1, atI_1, (frzW r.1).1, (frzW r.1).2, (frzA r.2).1, (frzA r.2).2]
    exact s_numbers_by_acts (by omega) hl hp (by have := hu.2.1; omega) hu.2.2
end
/-! QC -/
/-! sorted -/
theorem zip_map2 {α β γ : Type} (f : α → β) (g : α → γ) : ∀ as : List α, (as.map f).zip (as.map g) = as.map fun a => (f a, g a)
  | [] => rfl
  | a :: as => by simp [zip_map2 f g as]
theorem w_sortd {α : Type} {e : α → D} {f : α → PyData} {m : Nat} {μ : Sto} {X : Str → List D → Sto → Prop} {Q : D → Sto → Prop} {b : Bool} {as : List α} (h : Cod e f m) (hm : m ≤ 60) (hal : ∀ a a', PySem.W.alike (f a) (f a') = true) (hs : (∀ a ∈ as, tupP (f a) = true) ∨ (∀ a ∈ as, noTupP (f a) = true)) :
    Wp (bltD .sortd (.lst b (as.map e))) μ Q X = Q (.lst true ((as.mergeSort (PySem.W.dataLe false f)).map e)) μ := by
  have hg : (alikes (as.map f) && ((as.map f).all tupP || (as.map f).all noTupP) && (as.map f).all fun p => decide (p.depth ≤ 60)) = true := by
    simp only [Bool.and_eq_true, Bool.or_eq_true, alikes, List.all_eq_true, List.mem_map, decide_eq_true_eq]
    refine ⟨⟨?_, ?_⟩, ?_⟩
    · rintro _ ⟨a, _, rfl⟩ _ ⟨a', _, rfl⟩; exact hal a a'
    · refine hs.imp ?_ ?_
      · rintro z _ ⟨a, ha, rfl⟩; exact z a ha
      · rintro z _ ⟨a, ha, rfl⟩; exact z a ha
    · rintro _ ⟨a, _, rfl⟩; have := h.dep a; omega
  have h2 : (((as.map e).zip (as.map f)).mergeSort (PySem.W.dataLe false Prod.snd)).map Prod.fst = (as.mergeSort (PySem.W.dataLe false f)).map e := by
    rw [zip_map2]
    have := List.map_mergeSort (f := fun a : α => (e a, f a)) (r := PySem.W.dataLe false f) (s := PySem.W.dataLe false Prod.snd) (l := as) (fun _ _ _ _ => rfl)
    rw [← this, List.map_map]; rfl
  show Wp (sortdD (as.map e)) μ Q X = _
  unfold sortdD
  rw [toPL_map h.toP]
  show Wp (guard' (alikes (as.map f) && ((as.map f).all tupP || (as.map f).all noTupP) && (as.map f).all fun p => decide (p.depth ≤ 60)) (M.ret (.lst true ((((as.map e).zip (as.map f)).mergeSort (PySem.W.dataLe false Prod.snd)).map Prod.fst)))) μ Q X = _
  rw [hg, wp_guard, wp_ret, h2]; simp
theorem Cod.inP {α : Type} [DecidableEq α] {e e' : α → D} {f : α → PyData} {m : Nat} (h : Cod e f m) (h' : ∀ a, (e' a).toP = some (f a)) (hm : m ≤ 60) (a : α) (as : List α) : Vf.inP (e' a) (as.map e) = some (decide (a ∈ as)) := by
  have h1 : SeqAt.shaped (f a) = true := by simp [SeqAt.shaped, h.lay]; have := h.dep a; omega
  have h2 : SeqAt.shaped (.list (as.map f)) = true := by
    have := depL_map h.dep as
    simp [SeqAt.shaped, PyData.canLay0, layL_map h.lay, PyData.depth]; omega
  unfold Vf.inP
  rw [h', toPL_map h.toP]
  show (if (SeqAt.shaped (f a) && SeqAt.shaped (.list (as.map f))) = true then some ((as.map f).any fun z => PyData.eqv z (f a)) else none) = _
  rw [h1, h2, Bool.and_self, if_pos rfl]
  congr 1
  rw [Bool.eq_iff_iff, List.any_eq_true, decide_eq_true_eq]
  constructor
  · rintro ⟨z, hz, hz2⟩
    obtain ⟨b, hb, rfl⟩ := List.mem_map.1 hz
    rw [← (h.eq b a).1 hz2]; exact hb
  · intro ha
    exact ⟨f a, List.mem_map.2 ⟨a, ha, rfl⟩, (h.eq a a).2 rfl⟩
theorem w_notInX {μ : Sto} {X : Str → List D → Sto → Prop} {Q : D → Sto → Prop} {b : Bool} {p : Row} {fs : List Row} : Wp (cmpD .notIn (.tup (p.map .int)) (.lst b (fs.map eX))) μ Q X = Q (.bl (!decide (p ∈ fs))) μ := by
  have h : inD (.tup (p.map .int)) (.lst b (fs.map eX)) = some (decide (p ∈ fs)) := by
    unfold inD
    simp only [D.flat, Bool.false_and, Bool.false_eq_true, if_false]
    exact (codX.inP codX.toP (by omega) p fs).trans (by congr)
  simp only [cmpD, h, Option.map, wp_some]
/-! the law's own -/
def foundF (p : Row) (acts : List PR) : List Row := acts.foldl (fun fs a => if withW p a ∈ fs then fs else fs ++ [withW p a]) []
theorem found_take (p : Row) (as : List PR) (i : Nat) (h : i < as.length) : foundF p (as.take (i + 1)) = if withW p as[i] ∈ foundF p (as.take i) then foundF p (as.take i) else foundF p (as.take i) ++ [withW p as[i]] := foldl_take (fun fs a => if withW p a ∈ fs then fs else fs ++ [withW p a]) [] as i h
theorem found_len (p : Row) : ∀ (i : Nat) (as : List PR), i ≤ as.length → (foundF p (as.take i)).length ≤ i
  | 0, as, _ => by simp [foundF]
  | i + 1, as, h => by
    rw [found_take p as i (by omega)]
    have h2 := found_len p i as (by omega)
    split
    · omega
    · simp; omega
theorem found_plen (p : Row) : ∀ (i : Nat) (as : List PR), i ≤ as.length → ∀ q ∈ foundF p (as.take i), q.length = p.length
  | 0, as, _ => by simp [foundF]
  | i + 1, as, h => by
    rw [found_take p as i (by omega)]
    have h2 := found_plen p i as (by omega)
    split
    · exact h2
    · intro q hq
      rcases List.mem_append.1 hq with hq | hq
      · exact h2 q hq
      · rw [List.mem_singleton.1 hq]; exact withW_len _ _
def leX : Row → Row → Bool := PySem.W.dataLe false pX
def doneF (rs : List RU) (p : Row) : List Row := match metL rs p with
  | k :: _ => (foundF p (rs.getD k ([], [])).2).mergeSort leX
  | [] => []
section
variable {μ : Sto} {X : Str → List D → Sto → Prop}
theorem w_putL {ds : List D} {j : Int} {d : D} {Q : D → Sto → Prop} (h0 : 0 ≤ j) (h1 : j < ds.length) (hn : D.nbL ds = true) : Wp (putD (.lst true ds) (.int j) d) μ Q X = Q (.lst true (ds.set j.toNat d)) μ := by
  have h : ixD ds.length (.int j) = some j.toNat := by
    simp [ixD, L2.ixN, h0]
    omega
  simp only [putD, h, hn, wp_guard, wp_ret, true_and]
theorem set_int (p : Row) (j : Nat) (w : Int) : (p.map D.int).set j (.int w) = (p.set j w).map .int := by rw [List.map_set]
theorem s_law_done {k : Nat} {l : FL} {p : Row} {rs : List RU} (hk : 1 ≤ k) (hl : FD l) (hp : p.length = l.length) (hr : DZ (wsF l) rs) : Wp (run pp k (Str.ofString "_law_done") [eZ rs, eX p]) μ (fun d μ' => μ' = μ ∧ d = .lst true ((doneF rs p).map eX)) X := by
  obtain ⟨k, rfl⟩ : ∃ j, k = j + 1 := ⟨k - 1, by omega⟩
  have f1 := nbL_map frzI p
  have f2 := nbL_map frzU rs
  have hrl := hr.1
  have hlen := hl.len
  rw [e__law_done]
  simp_arith [P85.f__law_done, u_Z, u_X, f1.1, f1.2, f2.1, f2.2]
  refine wp_for (fun d μ' => μ' = μ ∧ d = .lst true ((doneF rs p).map eX)) _ (fun i ρ μ' => μ' = μ ∧ (∀ j, j < i → fits p (rs.getD j ([], [])).1 = false) ∧ ∃ r2 r3, ρ = [some (.lst false (rs.map eU)), some (.tup (p.map .int)), r2, r3, none, none, none, none, none, none]) _ _ ⟨rfl, by omega, none, none, rfl⟩ ?_ ?_ ?_
  · rintro i hi _ μ1 ⟨hμ, ha, r2, r3, rfl⟩
    subst hμ
    have hi' : i < rs.length := by simpa using hi
    have hu := hr.2 _ (getD_mem (d := ([], [])) hi')
    have hg : rs[i] = rs.getD i ([], []) := by simp [hi']
    simp only [List.getElem_map]
    rw [hg]
    generalize hr' : rs.getD i ([], []) = r at hu
    have f3 := nbL_map frzP r.1
    have f4 := nbL_map frzW r.2
    simp_arith [u_U, u_W, u_A, f3.1, f3.2, f4.1, f4.2]
    refine wp_mapF eP (fun q => !decide (p.getD q.1.toNat 0 = q.2)) r.1 [] _ (by have := hu.1.1; simp [line_eq]; omega) ?_ ?_
    · intro q hq
      obtain ⟨h0, h1, _⟩ := hu.1.2 q hq
      rw [wsF_len] at h1
      simp_arith [u_P, f1.1, f1.2, row_at (p := p) h0 (by omega), atI_0, atI_1, w_nei]
      cases decide (p.getD q.1.toNat 0 = q.2) <;> simp_arith [] <;> simp
    · have hall := filt_all (fun q : Pr => decide (p.getD q.1.toNat 0 = q.2)) r.1
      simp_arith [fzL_len]
      rw [hall, show (r.1.all fun q => decide (p.getD q.1.toNat 0 = q.2)) = fits p r.1 from rfl]
      cases hb : fits p r.1 with
      | true =>
        simp_arith [f4.1, f4.2]
        obtain ⟨js, hjs⟩ := filt_first (f := fun k => fits p (rs.getD k ([], [])).1) hi' ha (by show fits p (rs.getD i ([], [])).1 = true; rw [hr']; exact hb)
        have hdone : doneF rs p = (foundF p r.2).mergeSort leX := by
          simp only [doneF, metL, hjs, hr']
        rw [hdone]
        refine wp_for (fun _ _ => False) _ (fun i ρ μ' => μ' = μ1 ∧ ∃ r6 r7 r8 r9, ρ = [some (.lst false (rs.map eU)), some (.tup (p.map .int)), some (.lst false (r.1.map eP)), some (.lst false (r.2.map eW)), none, some (.lst true ((foundF p (r.2.take i)).map eX)), r6, r7, r8, r9]) _ _ ⟨rfl, none, none, none, none, rfl⟩ ?_ ?_ (fun _ _ h => h.elim)
        · rintro m hm _ μ2 ⟨hμ, r6, r7, r8, r9, rfl⟩
          subst hμ
          have hm' : m < r.2.length := by simpa using hm
          have hda := hu.2.2 r.2[m] (List.getElem_mem hm')
          have ht := found_take p r.2 m hm'
          have hfl := found_len p m r.2 (by omega)
          generalize hA : r.2[m] = a at hda ht
          have f5 := nbL_map frzP a
          simp only [List.getElem_map]
          rw [hA]
          simp_arith [f1.1, f1.2, u_W, f5.1, f5.2]
          refine wp_for (fun _ _ => False) _ (fun j ρ μ' => μ' = μ2 ∧ ∃ r8 r9, ρ = [some (.lst false (rs.map eU)), some (.tup (p.map .int)), some (.lst false (r.1.map eP)), some (.lst false (r.2.map eW)), none, some (.lst true ((foundF p (r.2.take m)).map eX)), some (.lst false (a.map eP)), some (.lst true ((withW p (a.take j)).map .int)), r8, r9]) _ _ ⟨rfl, r8, r9, rfl⟩ ?_ ?_ (fun _ _ h => h.elim)
          · rintro j hj _ μ3 ⟨hμ, r8, r9, rfl⟩
            subst hμ
            have hj' : j < a.length := by simpa using hj
            obtain ⟨h0, h1, _⟩ := hda.2 a[j] (List.getElem_mem hj')
            rw [wsF_len] at h1
            have hwl := withW_len p (a.take j)
            have f6 := nbL_map frzI (withW p (a.take j))
            simp only [List.getElem_map]
            simp_arith [u_P]
            rw [w_putL h0 (by rw [List.length_map]; omega) f6.1]
            refine ⟨rfl, some (.int a[j].1), some (.int a[j].2), ?_⟩
            rw [set_int, withW_take p a j hj']
          · rintro _ μ3 ⟨hμ, r8, r9, rfl⟩
            subst hμ
            rw [List.length_map, List.take_length]
            have f6 := nbL_map frzI (withW p a)
            have f7 := nbL_map frzX (foundF p (r.2.take m))
            simp_arith [f6.1, f6.2, f7.1, f7.2, w_notInX]
            by_cases hin : withW p a ∈ foundF p (r.2.take m)
            · rw [decide_eq_true hin]
              simp_arith []
              rw [ht, if_pos hin]
              exact ⟨_, _, _, _, rfl⟩
            · rw [decide_eq_false hin]
              simp_arith [f6.1, f6.2]
              rw [ht, if_neg hin]
              refine ⟨by have := hu.2.1; simp [line_eq]; omega, some (.lst false (a.map eP)), some (.lst true ((withW p a).map .int)), r8, r9, ?_⟩
              rw [List.map_append]
              rfl
        · rintro _ μ2 ⟨hμ, r6, r7, r8, r9, rfl⟩
          subst hμ
          rw [List.length_map, List.take_length]
          have f7 := nbL_map frzX (foundF p r.2)
          have hpl := found_plen p r.2.length r.2 (Nat.le_refl _)
          rw [List.take_length] at hpl
          simp_arith [f7.1, f7.2]
          rw [w_sortd codX (by omega) alX (.inl fun q hq => by
            have h1 := hpl q hq
            have h2 : 0 < l.length := List.length_pos_iff.2 hl.ne
            match q, (show 0 < q.length by omega) with
            | x :: q, _ => rfl)]
          simp_arith []
          rfl
      | false =>
        simp_arith []
        refine ⟨fun j hj => ?_, _, _, rfl⟩
        by_cases e : j = i
        · rw [e, hr']; exact hb
        · exact ha j (by omega)
  · rintro _ μ1 ⟨hμ, ha, r2, r3, rfl⟩
    subst hμ
    simp_arith []
    have := filt_nil (f := fun k => fits p (rs.getD k ([], [])).1) (n := rs.length) fun j hj => ha j (by simpa using hj)
    simp only [doneF, metL, this, List.map_nil]
  · rintro d μ1 ⟨hμ, hd⟩
    simp_arith [hμ, hd]
end
/-! QD -/
/-! numbers in order are parcels in order -/
theorem ltX (a b : Row) : PySem.W.dataLt (pX a) (pX b) = decide (a < b) := by
  have h := PySem.W.dataLt_ints a b
  rw [← h]
  show PySem.W.dataLt (.tuple (a.map .int)) (.tuple (b.map .int)) = _
  rw [PySem.W.dataLt_tuple]
  rfl
theorem leX_eq (a b : Row) : leX a b = !decide (b < a) := by
  show (!PySem.W.dataLt (pX b) (pX a)) = _
  rw [ltX]
theorem num_lt {l : FL} (h : FD l) : ∀ a ∈ pcs (wsF l), ∀ b ∈ pcs (wsF l), a < b → numW (wsF l) a < numW (wsF l) b := by
  obtain ⟨c, hc⟩ := h.st
  exact (by decide +kernel : ∀ e ∈ ST, ∀ a ∈ pcs e.1, ∀ b ∈ pcs e.1, a < b → numW e.1 a < numW e.1 b) _ hc
theorem num_inj {l : FL} (h : FD l) : ∀ a ∈ pcs (wsF l), ∀ b ∈ pcs (wsF l), numW (wsF l) a = numW (wsF l) b → a = b := by
  obtain ⟨c, hc⟩ := h.st
  exact (by decide +kernel : ∀ e ∈ ST, ∀ a ∈ pcs e.1, ∀ b ∈ pcs e.1, numW e.1 a = numW e.1 b → a = b) _ hc
theorem pcs_set {l : FL} (h : FD l) {p : Row} (hp : p ∈ pcs (wsF l)) {q : Pr} (hq : DP (wsF l) q) : p.set q.1.toNat q.2 ∈ pcs (wsF l) := by
  obtain ⟨c, hc⟩ := h.st
  obtain ⟨h0, h1, h2, h3⟩ := hq
  have := (by decide +kernel : ∀ e ∈ ST, ∀ p ∈ pcs e.1, ∀ f, f < e.1.length → ∀ w, w < e.1.getD f 0 → p.set f ((w : Nat) : Int) ∈ pcs e.1) _ hc p hp q.1.toNat (by simp only; omega) q.2.toNat (by simp only [szW] at h3 ⊢; omega)
  rwa [show ((q.2.toNat : Nat) : Int) = q.2 by omega] at this
theorem withW_mem {l : FL} (h : FD l) : ∀ (a : PR) (p : Row), p ∈ pcs (wsF l) → (∀ q ∈ a, DP (wsF l) q) → withW p a ∈ pcs (wsF l)
  | [], p, hp, _ => hp
  | q :: a, p, hp, hq => by
    have h1 := pcs_set h hp (hq q List.mem_cons_self)
    exact withW_mem h a _ h1 fun z hz => hq z (List.mem_cons_of_mem _ hz)
theorem found_keys {l : FL} (h : FD l) {p : Row} (hp : p ∈ pcs (wsF l)) : ∀ (as : List PR) (fs : List Row), (∀ a ∈ as, DW (wsF l) a) → (∀ q ∈ fs, q ∈ pcs (wsF l)) → fs.Nodup →
    as.foldl (fun ks a => addK (numW (wsF l) (withW p a)) ks) (fs.map (numW (wsF l))) = (as.foldl (fun fs a => if withW p a ∈ fs then fs else fs ++ [withW p a]) fs).map (numW (wsF l)) ∧
    (∀ q ∈ as.foldl (fun fs a => if withW p a ∈ fs then fs else fs ++ [withW p a]) fs, q ∈ pcs (wsF l)) ∧ (as.foldl (fun fs a => if withW p a ∈ fs then fs else fs ++ [withW p a]) fs).Nodup
  | [], fs, _, hf, hn => ⟨rfl, hf, hn⟩
  | a :: as, fs, ha, hf, hn => by
    have hm := withW_mem h a p hp (ha a List.mem_cons_self).2
    have hadd : addK (numW (wsF l) (withW p a)) (fs.map (numW (wsF l))) = (if withW p a ∈ fs then fs else fs ++ [withW p a]).map (numW (wsF l)) := by
      unfold addK
      by_cases e : withW p a ∈ fs
      · rw [if_pos e, if_pos (List.mem_map.2 ⟨_, e, rfl⟩)]
      · rw [if_neg e, if_neg, List.map_append]; · rfl
        intro z
        obtain ⟨q, hq, hz⟩ := List.mem_map.1 z
        rw [num_inj h q (hf q hq) _ hm hz] at hq
        exact e hq
    rw [List.foldl_cons, List.foldl_cons, hadd]
    refine found_keys h hp as _ (fun b hb => ha b (List.mem_cons_of_mem _ hb)) ?_ ?_
    · split
      · exact hf
      · intro q hq
        rcases List.mem_append.1 hq with hq | hq
        · exact hf q hq
        · rw [List.mem_singleton.1 hq]; exact hm
    · split
      · exact hn
      · rename_i e
        rw [List.nodup_append]
        refine ⟨hn, by simp, ?_⟩
        intro x hx y hy z
        rw [List.mem_singleton.1 hy] at z
        rw [z] at hx
        exact e hx
theorem up_ext : ∀ {r q : List Int}, r.Pairwise (· < ·) → q.Pairwise (· < ·) → (∀ x, x ∈ r ↔ x ∈ q) → r = q
  | [], [], _, _, _ => rfl
  | [], y :: q, _, _, h => by have := (h y).2 List.mem_cons_self; simp at this
  | x :: r, [], _, _, h => by have := (h x).1 List.mem_cons_self; simp at this
  | x :: r, y :: q, h1, h2, h => by
    have a := List.pairwise_cons.1 h1
    have b := List.pairwise_cons.1 h2
    have e : x = y := by
      have m1 := (h x).1 List.mem_cons_self
      have m2 := (h y).2 List.mem_cons_self
      rcases List.mem_cons.1 m1 with m1 | m1
      · exact m1
      · rcases List.mem_cons.1 m2 with m2 | m2
        · exact m2.symm
        · have := b.1 x m1; have := a.1 y m2; omega
    subst e
    congr 1
    refine up_ext a.2 b.2 fun z => ?_
    constructor
    · intro hz
      rcases List.mem_cons.1 ((h z).1 (List.mem_cons_of_mem _ hz)) with e | m
      · have := a.1 z hz; omega
      · exact m
    · intro hz
      rcases List.mem_cons.1 ((h z).2 (List.mem_cons_of_mem _ hz)) with e | m
      · have := b.1 z hz; omega
      · exact m
theorem leX_total (a b : Row) : (leX a b || leX b a) = true := by
  rw [leX_eq, leX_eq]
  by_cases h : b < a
  · have : ¬ a < b := fun z => List.lt_asymm h z
    simp [this]
  · simp [h]
theorem leX_trans (a b c : Row) (h1 : leX a b = true) (h2 : leX b c = true) : leX a c = true := by
  rw [leX_eq] at *
  simp only [Bool.not_eq_true', decide_eq_false_iff_not] at *
  have h1 : a ≤ b := h1
  have h2 : b ≤ c := h2
  exact (List.le_trans h1 h2 : a ≤ c)
theorem done_nums {l : FL} (h : FD l) {p : Row} (hp : p ∈ pcs (wsF l)) {rs : List RU} (hr : DZ (wsF l) rs) : (doneF rs p).map (numW (wsF l)) = numsF (wsF l) rs p := by
  unfold doneF numsF
  cases hm : metL rs p with
  | nil => rfl
  | cons k ks =>
    have hu := hr.2 _ (getD_mem (d := ([], [])) (metL_mem hm))
    generalize hr' : rs.getD k ([], []) = r at hu
    simp only [hr']
    obtain ⟨h1, h2, h3⟩ := found_keys h hp r.2 [] hu.2.2 (by simp) List.nodup_nil
    have hk : keysF (wsF l) p r.2 = (foundF p r.2).map (numW (wsF l)) := h1
    have h2 : ∀ q ∈ foundF p r.2, q ∈ pcs (wsF l) := h2
    have h3 : (foundF p r.2).Nodup := h3
    rw [hk]
    generalize foundF p r.2 = fs at h2 h3
    have hperm := List.mergeSort_perm fs leX
    have hsort := List.pairwise_mergeSort leX_trans leX_total fs
    have hnd : (fs.mergeSort leX).Nodup := hperm.nodup_iff.2 h3
    have hnn : (fs.map (numW (wsF l))).Nodup := by
      rw [List.Nodup, List.pairwise_map]
      refine List.Pairwise.imp_of_mem ?_ h3
      intro a b ha hb hne e
      exact hne (num_inj h a (h2 a ha) b (h2 b hb) e)
    refine up_ext ?_ (isort_up _ hnn) ?_
    · rw [List.pairwise_map]
      refine List.Pairwise.imp_of_mem ?_ (hsort.and hnd)
      rintro a b ha hb ⟨hle, hne⟩
      have ha := h2 a (hperm.mem_iff.1 ha)
      have hb := h2 b (hperm.mem_iff.1 hb)
      rw [leX_eq] at hle
      simp only [Bool.not_eq_true', decide_eq_false_iff_not] at hle
      have hle : a ≤ b := hle
      have hlt : a < b := by
        rcases List.le_iff_lt_or_eq.1 hle with z | z
        · exact z
        · exact absurd z hne
      exact num_lt h a ha b hb hlt
    · intro x
      rw [mem_isort, List.mem_map, List.mem_map]
      constructor <;> (rintro ⟨q, hq, rfl⟩; exact ⟨q, by first | exact hperm.mem_iff.1 hq | exact hperm.mem_iff.2 hq, rfl⟩)
/-! QE -/
def tabF (ws : List Nat) (rs : List RU) : Tb := (pcs ws).map (numsF ws rs)
def oR (r : Row) : D := .lst true (r.map .int)
def oT (t : Tb) : D := .lst true (t.map oR)
theorem fzL_oR : ∀ t : Tb, D.fzL (t.map oR) = t.map eR
  | [] => rfl
  | r :: t => by simp [D.fzL, oR, eR, eL, D.fz, fzL_ints, fzL_oR t]
theorem oT_fz (t : Tb) : (oT t).fz = eT t := by simp [oT, D.fz, fzL_oR, u_T]
theorem oR_fz (r : Row) : (oR r).fz = eR r := by simp [oR, D.fz, fzL_ints, u_R]
theorem metD_fz (rs : List RU) (p : Row) : (metD rs p).nb = true ∧ (metD rs p).fz = metD rs p := by
  unfold metD; split <;> exact ⟨rfl, rfl⟩
theorem metD_flat (rs : List RU) (p : Row) : (metD rs p).flat = true := by
  unfold metD; split <;> rfl
def metsF (ws : List Nat) (rs : List RU) : List D := (pcs ws).map (metD rs)
theorem mets_fz (ws : List Nat) (rs : List RU) : D.nbL (metsF ws rs) = true ∧ D.fzL (metsF ws rs) = metsF ws rs := nbL_of (P := fun d => d.nb = true ∧ d.fz = d) (fun _ h => h) (by
  intro x hx
  obtain ⟨p, _, rfl⟩ := List.mem_map.1 hx
  exact metD_fz rs p)
def unB (ws : List Nat) (rs : List RU) (k : Nat) : Bool := L2.inV (L2.V.int (k : Nat)) ((metsF ws rs).map D.toV)
def unF (ws : List Nat) (rs : List RU) : Row := ((List.range rs.length).filter fun k => !unB ws rs k).map fun k : Nat => (k : Int)
def clashK (ws : List Nat) (a b : List RU) : List Nat := (List.range (pcs ws).length).filter fun k => !decide (numsF ws a ((pcs ws).getD k []) = numsF ws b ((pcs ws).getD k []))
def clashD (ws : List Nat) (a b : List RU) : D := match clashK ws a b with
  | k :: _ => .tup [.str (Str.ofString "parcel"), eX ((pcs ws).getD k []), metD a ((pcs ws).getD k []), metD b ((pcs ws).getD k [])]
  | [] => .tup [.str (Str.ofString "same")]
section
variable {μ : Sto} {X : Str → List D → Sto → Prop}
theorem w_notInM {k : Nat} {b : Bool} {ws : List Nat} {rs : List RU} {Q : D → Sto → Prop} : Wp (cmpD .notIn (.int (k : Nat)) (.lst b (metsF ws rs))) μ Q X = Q (.bl (!unB ws rs k)) μ := by
  have h : inD (.int (k : Nat)) (.lst b (metsF ws rs)) = some (unB ws rs k) := by
    have hc : ((D.int (k : Nat)).flat && (metsF ws rs).all D.flat) = true := by
      simp only [D.flat, Bool.true_and, List.all_eq_true]
      intro x hx
      obtain ⟨p, _, rfl⟩ := List.mem_map.1 hx
      exact metD_flat rs p
    show (if ((D.int (k : Nat)).flat && (metsF ws rs).all D.flat) = true then some (L2.inV (D.int (k : Nat)).toV ((metsF ws rs).map D.toV)) else Vf.inP (.int (k : Nat)) (metsF ws rs)) = _
    rw [if_pos hc]; rfl
  simp only [cmpD, h, Option.map, wp_some]
theorem w_neR {t u : Row} {Q : D → Sto → Prop} : Wp (cmpD .ne (eR t) (eR u)) μ Q X = Q (.bl (!decide (t = u))) μ := by
  simp only [cmpD, codR.eqD (by omega), Option.map, wp_some]
theorem w_neZ {t : List RU} {Q : D → Sto → Prop} : Wp (cmpD .ne (eZ t) (eZ t)) μ Q X = Q (.bl false) μ := by
  simp only [cmpD, codZ.eqD (by omega), Option.map, wp_some, decide_true, Bool.not_true]
theorem w_eqZ {t : List RU} {Q : D → Sto → Prop} : Wp (cmpD .eq (eZ t) (eZ t)) μ Q X = Q (.bl true) μ := by
  simp only [cmpD, codZ.eqD (by omega), Option.map, wp_some, decide_true]
theorem s_table_of_rules {k : Nat} {l : FL} {rs : List RU} (hk : 5 ≤ k) (hl : FD l) (hr : DZ (wsF l) rs) : Wp (run pp k (Str.ofString "table_of_rules") [eF l, eZ rs]) μ (fun d μ' => μ' = μ ∧ d = oT (tabF (wsF l) rs)) X := by
  obtain ⟨k, rfl⟩ : ∃ j, k = j + 5 := ⟨k - 5, by omega⟩
  have f0 := frzF l
  have f3 := frzZ rs
  have hpl := hl.plen
  have hpc := hl.pc0
  rw [e_table_of_rules]
  simp_arith [P85.f_table_of_rules, f0.1, f0.2]
  refine (s_all_parcels (by omega) hl).mono ?_
  rintro d μ1 ⟨hμ, hd⟩
  subst hμ
  rw [hd]
  simp_arith []
  refine wp_mapV eX (fun p => oR (numsF (wsF l) rs p)) (pcs (wsF l)) [] _ (by simp [line_eq]; omega) ?_ ?_
  · intro p hp
    have f1 := frzX p
    simp_arith [f0.1, f0.2, f1.1, f1.2, f3.1, f3.2]
    refine (s_numbers_by_rules (by omega) hl (hpl p hp) hr).mono ?_
    rintro d μ2 ⟨hμ, hd⟩
    subst hμ; subst hd
    exact ⟨rfl, rfl⟩
  · simp_arith []
    rw [oT, tabF, List.map_map]; rfl
theorem mets_len {ws : List Nat} {rs : List RU} : (metsF ws rs).length = (pcs ws).length := by simp [metsF]
theorem s_clash_told {k : Nat} {l : FL} {a b : List RU} (hk : 5 ≤ k) (hl : FD l) (ha : DZ (wsF l) a) (hb : DZ (wsF l) b) : Wp (run pp k (Str.ofString "clash_told") [eF l, eZ a, eZ b]) μ (fun d μ' => μ' = μ ∧ d = clashD (wsF l) a b) X := by
  obtain ⟨k, rfl⟩ : ∃ j, k = j + 5 := ⟨k - 5, by omega⟩
  have f0 := frzF l
  have fa := frzZ a
  have fb := frzZ b
  have hpl := hl.plen
  have hpc := hl.pc0
  rw [e_clash_told]
  simp_arith [P85.f_clash_told, f0.1, f0.2]
  refine (s_all_parcels (by omega) hl).mono ?_
  rintro d μ1 ⟨hμ, hd⟩
  subst hμ
  rw [hd]
  simp_arith []
  refine wp_for (fun d μ' => μ' = μ1 ∧ d = clashD (wsF l) a b) _ (fun i ρ μ' => μ' = μ1 ∧ (∀ j, j < i → (!decide (numsF (wsF l) a ((pcs (wsF l)).getD j []) = numsF (wsF l) b ((pcs (wsF l)).getD j []))) = false) ∧ ∃ r3, ρ = [some (eF l), some (eZ a), some (eZ b), r3]) _ _ ⟨rfl, by omega, none, rfl⟩ ?_ ?_ ?_
  · rintro i hi _ μ2 ⟨hμ, hj, r3, rfl⟩
    subst hμ
    have hi' : i < (pcs (wsF l)).length := by simpa using hi
    have hg : (pcs (wsF l))[i] = (pcs (wsF l)).getD i [] := by simp [hi']
    have hp := hpl _ (getD_mem (d := []) hi')
    simp only [List.getElem_map]
    rw [hg]
    generalize hP : (pcs (wsF l)).getD i [] = p at hp
    have f1 := frzX p
    simp_arith [f0.1, f0.2, f1.1, f1.2, fa.1, fa.2, fb.1, fb.2]
    refine (s_numbers_by_rules (by omega) hl hp ha).mono ?_
    rintro d μ3 ⟨hμ, hd⟩
    subst hμ; subst hd
    simp_arith [f0.1, f0.2, f1.1, f1.2, fa.1, fa.2, fb.1, fb.2]
    refine (s_numbers_by_rules (by omega) hl hp hb).mono ?_
    rintro d μ4 ⟨hμ, hd⟩
    subst hμ; subst hd
    simp_arith [fzL_ints, ← u_R, w_neR]
    cases hc : (!decide (numsF (wsF l) a p = numsF (wsF l) b p)) with
    | true =>
      simp_arith [f0.1, f0.2, f1.1, f1.2, fa.1, fa.2, fb.1, fb.2]
      refine (s_rule_met (by omega) hp ha).mono ?_
      rintro d μ5 ⟨hμ, hd⟩
      subst hμ; subst hd
      (try simp_arith [f0.1, f0.2, f1.1, f1.2, fa.1, fa.2, fb.1, fb.2])
      refine (s_rule_met (by omega) hp hb).mono ?_
      rintro d μ6 ⟨hμ, hd⟩
      subst hμ; subst hd
      simp_arith []
      obtain ⟨js, hjs⟩ := filt_first (f := fun k => !decide (numsF (wsF l) a ((pcs (wsF l)).getD k []) = numsF (wsF l) b ((pcs (wsF l)).getD k []))) hi' hj (by show (!decide (numsF (wsF l) a ((pcs (wsF l)).getD i []) = numsF (wsF l) b ((pcs (wsF l)).getD i []))) = true; rw [hP]; exact hc)
      have hK : clashK (wsF l) a b = i :: js := hjs
      simp only [clashD, hK, hP]
    | false =>
      simp_arith []
      refine ⟨fun j hj' => ?_, _, rfl⟩
      by_cases e : j = i
      · rw [e, hP]; exact hc
      · exact hj j (by omega)
  · rintro _ μ2 ⟨hμ, hj, r3, rfl⟩
    subst hμ
    simp_arith []
    have hK : clashK (wsF l) a b = [] := filt_nil fun j hj' => hj j (by simpa using hj')
    simp only [clashD, hK]
  · rintro d μ2 ⟨hμ, hd⟩
    simp_arith [hμ, hd]
theorem done_facts {ws : List Nat} {rs : List RU} {p : Row} (hr : DZ ws rs) : (∀ q ∈ doneF rs p, q.length = p.length) ∧ (doneF rs p).length ≤ 20 := by
  cases hm : metL rs p with
  | nil =>
    have hd : doneF rs p = [] := by simp only [doneF, hm]
    rw [hd]; simp
  | cons k ks =>
    have hd : doneF rs p = (foundF p (rs.getD k ([], [])).2).mergeSort leX := by simp only [doneF, hm]
    have hu := hr.2 _ (getD_mem (d := ([], [])) (metL_mem hm))
    rw [hd]
    generalize rs.getD k ([], []) = r at hu
    have h1 := found_plen p r.2.length r.2 (Nat.le_refl _)
    have h2 := found_len p r.2.length r.2 (Nat.le_refl _)
    rw [List.take_length] at h1 h2
    refine ⟨fun q hq => h1 q (List.mem_mergeSort.1 hq), ?_⟩
    rw [List.length_mergeSort]
    have := hu.2.1; omega
theorem s_law_rules_table {k : Nat} {l : FL} {rs : List RU} (hk : 5 ≤ k) (hl : FD l) (hr : DZ (wsF l) rs) : Wp (run pp k (Str.ofString "_law_rules_table") [eF l, eZ rs]) μ (fun d μ' => μ' = μ ∧ d = oT (tabF (wsF l) rs)) X := by
  obtain ⟨k, rfl⟩ : ∃ j, k = j + 5 := ⟨k - 5, by omega⟩
  have f0 := frzF l
  have f3 := frzZ rs
  have hpl := hl.plen
  have hpc := hl.pc0
  rw [e__law_rules_table]
  simp_arith [P85.f__law_rules_table, f0.1, f0.2]
  refine (s_law_parcels (by omega) hl).mono ?_
  rintro d μ1 ⟨hμ, hd⟩
  subst hμ
  rw [hd]
  simp_arith []
  refine wp_for (fun _ _ => False) _ (fun i ρ μ' => μ' = μ1 ∧ ∃ r3, ρ = [some (eF l), some (eZ rs), some (.lst true (((tabF (wsF l) rs).take i).map oR)), r3, none]) _ _ ⟨rfl, none, rfl⟩ ?_ ?_ (fun _ _ h => h.elim)
  · rintro i hi _ μ2 ⟨hμ, r3, rfl⟩
    subst hμ
    have hi' : i < (pcs (wsF l)).length := by simpa using hi
    have htl : (tabF (wsF l) rs).length = (pcs (wsF l)).length := by simp [tabF]
    have hp := List.getElem_mem hi'
    have htg : (tabF (wsF l) rs)[i]'(by omega) = numsF (wsF l) rs (pcs (wsF l))[i] := by simp [tabF]
    have htk := List.take_succ_eq_append_getElem (show i < (tabF (wsF l) rs).length by omega)
    rw [htg] at htk
    simp only [List.getElem_map]
    generalize hP : (pcs (wsF l))[i] = p at hp htk
    have f1 := frzX p
    have hdn := done_nums hl hp hr
    simp_arith [f0.1, f0.2, f1.1, f1.2, f3.1, f3.2]
    refine (s_law_done (by omega) hl (hpl p hp) hr).mono ?_
    rintro d μ3 ⟨hμ, hd⟩
    subst hμ; subst hd
    obtain ⟨hq0, hql⟩ := done_facts (p := p) hr
    have hq : ∀ q ∈ doneF rs p, q.length = l.length := fun q h => (hq0 q h).trans (hpl p hp)
    have fd := nbL_map frzX (doneF rs p)
    simp_arith [fd.1, fd.2]
    refine wp_mapV eX (fun q => .int (numW (wsF l) q)) (doneF rs p) [] _ (by simp [line_eq]; omega) ?_ ?_
    · intro q hq'
      have f4 := frzX q
      simp_arith [f0.1, f0.2, f4.1, f4.2]
      refine (s_law_number (by omega) hl (hq q hq')).mono ?_
      rintro d μ4 ⟨hμ, hd⟩
      subst hμ; subst hd
      exact ⟨rfl, rfl⟩
    · simp_arith []
      refine ⟨by simp [line_eq]; omega, some (eX p), ?_⟩
      rw [htk, List.map_append, ← hdn]
      simp [oR]
  · rintro _ μ2 ⟨hμ, r3, rfl⟩
    subst hμ
    rw [List.length_map, List.take_of_length_le (by simp [tabF])]
    simp_arith [D.isX]
    rfl
end
/-! QF -/
theorem nrL_eq : ∀ ds : List D, D.nrL ds = ds.all D.nr
  | [] => rfl
  | d :: ds => by simp [D.nrL, nrL_eq ds]
theorem nr_ints (r : Row) : D.nrL (r.map .int) = true := by rw [nrL_eq]; simp [D.nr]
theorem nr_oR (r : Row) : D.nr (oR r) = true := nr_ints r
theorem nr_eR (r : Row) : D.nr (eR r) = true := nr_ints r
theorem nr_oT (t : Tb) : D.nr (oT t) = true := by
  show D.nrL (t.map oR) = true
  rw [nrL_eq]; simp [nr_oR]
theorem nr_eT (t : Tb) : D.nr (eT t) = true := by
  show D.nrL (t.map eR) = true
  rw [nrL_eq]; simp [nr_eR]
theorem smR {r : Row} (h : r.length ≤ 100) : Sm 1 (eR r) := .lst 0 _ (by simpa using h) (by
  intro d hd
  obtain ⟨i, _, rfl⟩ := List.mem_map.1 hd
  exact .int 0 i)
theorem smT {t : Tb} (h : t.length ≤ 100) (hr : ∀ r ∈ t, r.length ≤ 100) : Sm 2 (eT t) := .lst 1 _ (by simpa using h) (by
  intro d hd
  obtain ⟨r, h1, rfl⟩ := List.mem_map.1 hd
  exact smR (hr r h1))
theorem smX {p : Row} (h : p.length ≤ 100) : Sm 1 (eX p) := .tup 0 _ (by simpa using h) (by
  intro d hd
  obtain ⟨i, _, rfl⟩ := List.mem_map.1 hd
  exact .int 0 i)
theorem smM (j : Nat) (rs : List RU) (p : Row) : Sm j (metD rs p) := by
  unfold metD; split
  · exact .int j _
  · exact .non j
theorem smMs (ws : List Nat) (rs : List RU) (h : (pcs ws).length ≤ 100) : Sm 1 (.lst false (metsF ws rs)) := .lst 0 _ (by simpa [metsF] using h) (by
  intro d hd
  obtain ⟨p, _, rfl⟩ := List.mem_map.1 hd
  exact smM 0 rs p)
theorem numsF_len {ws : List Nat} {rs : List RU} {p : Row} (hr : DZ ws rs) : (numsF ws rs p).length ≤ 100 := by
  cases hm : metL rs p with
  | nil =>
    have hd : numsF ws rs p = [] := by simp only [numsF, hm]
    rw [hd]; simp
  | cons k ks =>
    have hd : numsF ws rs p = isort (keysF ws p (rs.getD k ([], [])).2) := by simp only [numsF, hm]
    have hu := hr.2 _ (getD_mem (d := ([], [])) (metL_mem hm))
    rw [hd, len_isort]
    generalize rs.getD k ([], []) = r at hu
    have h2 := keys_len ws p r.2.length r.2 (Nat.le_refl _)
    rw [List.take_length] at h2
    have := hu.2.1; omega
theorem unF_len (ws : List Nat) (rs : List RU) : (unF ws rs).length ≤ rs.length := by
  unfold unF
  rw [List.length_map]
  exact Nat.le_trans (List.length_filter_le _ _) (by simp)
theorem clash_sm {l : FL} (hl : FD l) (a b : List RU) : Sm 2 (clashD (wsF l) a b) := by
  unfold clashD
  split
  · rename_i k ks hk
    have hk' : k < (pcs (wsF l)).length := by
      have : k ∈ clashK (wsF l) a b := by rw [hk]; exact List.mem_cons_self
      exact List.mem_range.1 (List.mem_filter.1 this).1
    have hp := hl.plen _ (getD_mem (d := []) hk')
    have := hl.len
    refine .tup 1 _ (by simp) ?_
    intro d hd
    simp only [List.mem_cons, List.not_mem_nil, or_false] at hd
    rcases hd with rfl | rfl | rfl | rfl
    · exact .str 1 _ (by decide +kernel)
    · exact smX (by omega)
    · exact smM 1 _ _
    · exact smM 1 _ _
  · refine .tup 1 _ (by simp) ?_
    intro d hd
    simp only [List.mem_cons, List.not_mem_nil, or_false] at hd
    rw [hd]
    exact .str 1 _ (by decide +kernel)
section
variable {μ : Sto} {X : Str → List D → Sto → Prop}
theorem s_law_copied {k : Nat} {rs : List RU} (hk : 1 ≤ k) (hr : rs.length ≤ 100) (hs : ∀ r ∈ rs, smU r) : Wp (run pp k (Str.ofString "_law_copied") [eZ rs]) μ (fun d μ' => μ' = μ ∧ d.fz = eZ rs) X := by
  obtain ⟨k, rfl⟩ : ∃ j, k = j + 1 := ⟨k - 1, by omega⟩
  have f2 := nbL_map frzU rs
  rw [e__law_copied]
  simp_arith [P85.f__law_copied, u_Z, f2.1, f2.2]
  refine wp_mapE id (by simp [line_eq]; omega) ?_ ?_
  · intro x hx
    obtain ⟨r, hr', rfl⟩ := List.mem_map.1 hx
    have hu := hs r hr'
    have f3 := nbL_map frzP r.1
    have f4 := nbL_map frzW r.2
    simp_arith [u_U, u_W, u_A, f3.1, f3.2, f4.1, f4.2]
    refine wp_mapE id (by have := hu.2.1; simp [line_eq]; omega) ?_ ?_
    · intro y hy
      obtain ⟨a, ha, rfl⟩ := List.mem_map.1 hy
      have f5 := nbL_map frzP a
      simp_arith [u_W, f5.1, f5.2]
      exact ⟨_, rfl, by simp [D.fz, f5.2, u_W]⟩
    · intro ys hy
      rw [List.map_id] at hy
      refine ⟨rfl, _, rfl, ?_⟩
      simp [D.fz, D.fzL, f3.2, hy, u_U, u_W, u_A]
  · intro ys hy
    rw [List.map_id] at hy
    simp_arith [hy]
theorem w_app2 {Ψ : Cfg} {ρ : Env} {Q : Fl → Sto → Prop} {i : Nat} {m1 m2 : Int} {e : E} : Wp (exS Ψ (.app2 i m1 m2 e) ρ) μ Q X = Wp (match ρ[i]? with
    | some (some (.lst true ds)) => match ixD ds.length (.int m1) with
      | some j1 => match ds[j1]? with
        | some (.lst true es) => match ixD es.length (.int m2) with
          | some j2 => match es[j2]? with
            | some (.lst true fs) => M.bind (evE Ψ e ρ) fun d => guard' (decide (fs.length < LINE)) (M.ret (.nx (ρ.set i (some (.lst true (ds.set j1 (.lst true (es.set j2 (.lst true (fs ++ [d]))))))))))
            | _ => M.bad
          | none => M.bad
        | _ => M.bad
      | none => M.bad
    | _ => M.bad) μ Q X := by with_unfolding_all rfl
theorem ixD_0 {n : Nat} : ixD (n + 1) (.int 0) = some 0 := by simp [ixD, L2.ixN]
theorem ixD_1 {n : Nat} : ixD (n + 2) (.int 1) = some 1 := by simp [ixD, L2.ixN]; omega
end
/-! QG -/
theorem DW.sm {ws : List Nat} {p : PR} (h : DW ws p) : p.length ≤ 100 := by have := h.1; omega
theorem DZ.sm {ws : List Nat} {rs : List RU} (h : DZ ws rs) : rs.length ≤ 100 ∧ ∀ r ∈ rs, smU r := ⟨by have := h.1; omega, fun r hr => ⟨(h.2 r hr).1.sm, by have := (h.2 r hr).2.1; omega, fun a ha => ((h.2 r hr).2.2 a ha).sm⟩⟩
section
variable {μ : Sto} {X : Str → List D → Sto → Prop}
theorem wp_mapFV {α : Type} {f : D → M (Option D)} (e v : α → D) (c : α → Bool) : ∀ (as : List α) (acc : List D) (Q : List D → Sto → Prop), acc.length + as.length ≤ LINE →
    (∀ a ∈ as, Wp (f (e a)) μ (fun o μ' => μ' = μ ∧ o = if c a then some (v a) else none) X) →
    Q (acc ++ (as.filter c).map v) μ → Wp (mapC f (as.map e) acc) μ Q X
  | [], acc, Q, hl, hf, hq => by simpa [mapC, wp_ret] using hq
  | a :: as, acc, Q, hl, hf, hq => by
    rw [List.map_cons, mapC, wp_bind]
    refine (hf a List.mem_cons_self).mono ?_
    intro o μ1 h1
    rw [h1.1, h1.2]
    cases hc : c a with
    | false =>
      simp only [Bool.false_eq_true, if_false]
      exact wp_mapFV e v c as acc Q (by simp at hl; omega) (fun z hz => hf z (List.mem_cons_of_mem _ hz)) (by simpa [hc] using hq)
    | true =>
      simp only [if_true, wp_guard, decide_eq_true_eq]
      refine ⟨by simp at hl; omega, wp_mapFV e v c as _ Q (by simp at hl ⊢; omega) (fun z hz => hf z (List.mem_cons_of_mem _ hz)) ?_⟩
      simpa [hc] using hq
theorem w_eqZZ {a b : List RU} {Q : D → Sto → Prop} : Wp (cmpD .eq (.lst false [eZ a, eZ b]) (.lst false [eZ a, eZ b])) μ Q X = Q (.bl true) μ := by
  have h : D.eqD (eL eZ [a, b]) (eL eZ [a, b]) = some true := by
    classical
    rw [(codL codZ).eqD (by omega) [a, b] [a, b]]; simp
  rw [show D.lst false [eZ a, eZ b] = eL eZ [a, b] from rfl]
  simp only [cmpD, h, Option.map, wp_some, decide_true]
end
/-! QH -/
theorem ST_step : ∀ p ∈ ST, ∀ n ∈ ([2, 3, 4] : List Nat), (n : Int) ≤ p.2 → (p.1 ++ [n], p.2 / (n : Int)) ∈ ST := by decide
theorem ST_first : ∀ p ∈ ST, p.1 = [] → p.2 = 12 := by decide
theorem lname (i : Nat) (hi : i < 3) (k : Nat) (μ : Sto) : ∃ x, nmOk x = true ∧ run pp (k + 1) (Str.ofString "_law_name") [.int (i : Nat)] μ = .ok (.str x) μ := by
  match i, hi with
  | 0, _ => exact ⟨Str.ofString "a", by decide +kernel, by kernel_rfl⟩
  | 1, _ => exact ⟨Str.ofString "bo", by decide +kernel, by kernel_rfl⟩
  | 2, _ => exact ⟨Str.ofString "cat", by decide +kernel, by kernel_rfl⟩
  | i + 3, h => exact absurd h (by omega)
theorem FD.szW_pos {l : FL} (h : FD l) {f : Nat} (hf : f < l.length) : ∃ n : Nat, szW (wsF l) (f : Int) = (n : Int) ∧ 0 < n ∧ n ≤ 4 := by
  obtain ⟨c, hc⟩ := h.st
  have := (by decide : ∀ e ∈ ST, ∀ n ∈ e.1, 0 < n ∧ n ≤ 4) _ hc ((wsF l).getD f 0) (getD_mem (by rw [wsF_len]; exact hf))
  exact ⟨(wsF l).getD f 0, rfl, this.1, this.2⟩
theorem DP.pq {l : FL} (h : FD l) {q : Pr} (hq : DP (wsF l) q) : PQ q := by
  obtain ⟨h0, h1, h2, h3⟩ := hq
  have hlen := h.len
  rw [wsF_len] at h1
  obtain ⟨n, hn, _, hn4⟩ := h.szW_pos (f := q.1.toNat) (by omega)
  rw [show ((q.1.toNat : Nat) : Int) = q.1 by omega] at hn
  rw [hn] at h3
  exact ⟨Nat.le_trans (show q.1.natAbs ≤ 3 by omega) (by decide), Nat.le_trans (show q.2.natAbs ≤ 4 by omega) (by decide)⟩
theorem DW.pw {l : FL} (h : FD l) {p : PR} (hp : DW (wsF l) p) : PW p := ⟨by have := hp.1; omega, fun q hq => (hp.2 q hq).pq h⟩
theorem DU.pu {l : FL} (h : FD l) {r : RU} (hr : DU (wsF l) r) : PU r := ⟨hr.1.pw h, by have := hr.2.1; omega, fun a ha => (hr.2.2 a ha).pw h⟩
theorem DZ.pz {l : FL} (h : FD l) {rs : List RU} (hr : DZ (wsF l) rs) : PZ rs := ⟨by have := hr.1; omega, fun r hr' => (hr.2 r hr').pu h⟩
section
variable {μ : Sto} {X : Str → List D → Sto → Prop}
theorem s_fields {k : Nat} (hk : 2 ≤ k) (hf : FO μ) : Wp (run pp k (Str.ofString "_law_fields") [.ref 0, .int 12]) μ (fun d μ' => FO μ' ∧ ∃ l, d.fz = eF l ∧ FD l) X := by
  obtain ⟨k, rfl⟩ : ∃ j, k = j + 2 := ⟨k - 2, by omega⟩
  rw [e__law_fields]
  simp_arith [P85.f__law_fields]
  refine (s_draw (many := 3) (by omega) hf (by omega) (by omega)).mono ?_
  rintro _ μ1 ⟨hf1, m, rfl, hm⟩
  simp_arith []
  refine ⟨by omega, ?_⟩
  rw [show (1 + (m : Int) - 0).toNat = m + 1 by omega]
  refine wp_for (fun _ _ => False) _ (fun i ρ μ' => FO μ' ∧ ∃ (l : FL) (c : Int) (r4 r5 : Option D), ρ = [some (.ref 0), some (.int 12), some (.lst true (l.map fl2)), some (.int c), r4, r5] ∧ (l.map (·.2), c) ∈ ST ∧ (0 < i → l ≠ []) ∧ ∀ q ∈ l, nmOk q.1 = true) _ _ ⟨hf1, [], 12, none, none, rfl, by simp [ST], by omega, by simp⟩ ?_ ?_ (fun _ _ h => h.elim)
  · rintro i hi _ μ2 ⟨hf2, l, c, r4, r5, rfl, hST, h0, hnm⟩
    simp at hi
    simp only [List.getElem_map, List.getElem_range]
    rw [show ((0 : Int) + (i : Nat)) = (i : Int) by omega]
    simp_arith []
    refine (s_draw (many := 3) (by omega) hf2 (by omega) (by omega)).mono ?_
    rintro _ μ3 ⟨hf3, z, rfl, hz⟩
    (try simp_arith [])
    have hstep := ST_step _ hST (z + 2) (by simp; omega)
    have hfst := ST_first _ hST
    simp only at hstep hfst
    by_cases hc : (2 : Int) + (z : Int) ≤ c
    · rw [decide_eq_true hc]
      simp_arith []
      obtain ⟨x, hxn, hx⟩ := lname i (by omega) k μ3
      refine Wp.of_ok hx ?_
      have hll : (l.map (·.2)).length ≤ 3 := (by decide : ∀ p ∈ ST, p.1.length ≤ 3) _ hST
      rw [List.length_map] at hll
      (try simp_arith [List.length_map])
      refine ⟨by simp [line_eq]; omega, by omega, hf3, l ++ [(x, z + 2)], c / (2 + (z : Int)), some (.int i), some (.int (2 + (z : Int))), ?_, ?_, fun _ => by simp, ?_⟩
      · have e : ((z + 2 : Nat) : Int) = 2 + (z : Int) := by omega
        simp only [List.map_append, List.map_cons, List.map_nil, fl2, e]
      · have := hstep (by omega)
        rw [List.map_append]
        have e : ((z + 2 : Nat) : Int) = 2 + (z : Int) := by omega
        rw [e] at this
        exact this
      · intro q hq
        rcases List.mem_append.1 hq with hq | hq
        · exact hnm q hq
        · rw [List.mem_singleton.1 hq]; exact hxn
    · rw [decide_eq_false hc]
      simp_arith []
      refine ⟨hf3, l, c, _, _, rfl, hST, fun _ hl => ?_, hnm⟩
      subst hl
      have := hfst rfl
      omega
  · rintro _ μ2 ⟨hf2, l, c, r4, r5, rfl, hST, h0, hnm⟩
    have hl := h0 (by simp)
    have hfz := (nbL_map frzF2 l).2
    simp_arith [D.isX, hfz]
    exact ⟨hf2, l, rfl, hnm, ⟨c, hST⟩, hl⟩
theorem fld_nat {l : FL} {f : Nat} (h : f < l.length) : ∃ x, L2.atI (l.map fl2) (f : Int) = some (.tup [.str x, .int (szW (wsF l) (f : Int))]) := fld_at (by omega) (by omega)
theorem w_notInW {Q : D → Sto → Prop} {b : Bool} {a : PR} {fs : List PR} : Wp (cmpD .notIn (.lst true (a.map eP)) (.lst b (fs.map eW))) μ Q X = Q (.bl (!decide (a ∈ fs))) μ := by
  have h : inD (.lst true (a.map eP)) (.lst b (fs.map eW)) = some (decide (a ∈ fs)) := by
    unfold inD
    simp only [D.flat, Bool.false_and, Bool.false_eq_true, if_false]
    exact (codW.inP (e' := fun a : PR => D.lst true (a.map eP)) (fun a => by have := codW.toP a; simpa [eW, eL, D.toP] using this) (by omega) a fs).trans (by congr)
  simp only [cmpD, h, Option.map, wp_some]
/-- a row of pairs that is drawn -/
theorem s_law_acts {k : Nat} {l : FL} (hk : 2 ≤ k) (hl : FD l) (hf : FO μ) : Wp (run pp k (Str.ofString "_law_acts") [.ref 0, eF l, .int 0]) μ (fun d μ' => FO μ' ∧ ∃ as, d.fz = eA as ∧ as.length ≤ 2 ∧ ∀ a ∈ as, DW (wsF l) a) X := by
  obtain ⟨k, rfl⟩ : ∃ j, k = j + 2 := ⟨k - 2, by omega⟩
  have f1 := nbL_map frzF2 l
  have hlen := hl.len
  rw [e__law_acts]
  simp_arith [P85.f__law_acts, u_F]
  refine (s_draw (many := 3) (by omega) hf (by omega) (by omega)).mono ?_
  rintro _ μ1 ⟨hf1, m, rfl, hm⟩
  simp_arith []
  refine ⟨by omega, ?_⟩
  rw [show ((m : Int) - 0).toNat = m by omega]
  refine wp_for (fun _ _ => False) _ (fun i ρ μ' => FO μ' ∧ ∃ (fs : List PR) (r4 r5 r6 : Option D), ρ = [some (.ref 0), some (.lst false (l.map fl2)), some (.int 0), some (.lst true (fs.map eW)), r4, r5, r6] ∧ fs.length ≤ i ∧ ∀ a ∈ fs, DW (wsF l) a) _ _ ⟨hf1, [], none, none, none, rfl, by simp, by simp⟩ ?_ ?_ (fun _ _ h => h.elim)
  · rintro i hi _ μ2 ⟨hf2, fs, r4, r5, r6, rfl, hfl, hfs⟩
    have hi' : i < m := by simpa using hi
    simp only [List.getElem_map, List.getElem_range]
    simp_arith [f1.1, f1.2]
    refine ⟨by omega, ?_⟩
    rw [show ((l.length : Int) - 0).toNat = l.length by omega]
    refine wp_for (fun _ _ => False) _ (fun j ρ μ' => FO μ' ∧ ∃ (a : PR) (r4 r6 : Option D), ρ = [some (.ref 0), some (.lst false (l.map fl2)), some (.int 0), some (.lst true (fs.map eW)), r4, some (.lst true (a.map eP)), r6] ∧ a.length ≤ j ∧ ∀ q ∈ a, DP (wsF l) q) _ _ ⟨hf2, [], _, _, rfl, by simp, by simp⟩ ?_ ?_ (fun _ _ h => h.elim)
    · rintro j hj _ μ3 ⟨hf3, a, r4, r6, rfl, hal, ha⟩
      have hj' : j < l.length := by simpa using hj
      simp only [List.getElem_map, List.getElem_range]
      rw [show ((0 : Int) + (j : Nat)) = (j : Int) by omega]
      simp_arith []
      refine (s_draw (many := 2) (by omega) hf3 (by omega) (by omega)).mono ?_
      rintro _ μ4 ⟨hf4, z, rfl, hz⟩
      simp_arith []
      obtain ⟨x, hx⟩ := fld_nat hj'
      obtain ⟨n, hn, hn0, hn4⟩ := hl.szW_pos hj'
      cases decide ((z : Int) = 0) with
      | false =>
        simp_arith []
        exact ⟨hf4, a, _, _, rfl, by omega, ha⟩
      | true =>
        simp_arith [f1.1, f1.2, hx, atI_1]
        rw [hn]
        refine (s_draw (by omega) hf4 hn0 (by omega)).mono ?_
        rintro _ μ5 ⟨hf5, w, rfl, hw⟩
        (try simp_arith [])
        refine ⟨by simp [line_eq]; omega, hf5, a ++ [((j : Int), (w : Int))], r4, some (.int (j : Nat)), by simp [eP], by simp; omega, ?_⟩
        intro q hq
        rcases List.mem_append.1 hq with hq | hq
        · exact ha q hq
        · rw [List.mem_singleton.1 hq]
          exact ⟨by simp only; omega, by simp only [wsF_len]; omega, by simp only; omega, by simp only [hn]; omega⟩
    · rintro _ μ3 ⟨hf3, a, r4, r6, rfl, hal, ha⟩
      rw [List.length_map, List.length_range] at hal
      have f2 := nbL_map frzP a
      have f3 := nbL_map frzW fs
      simp_arith [f2.1, f2.2, f3.1, f3.2, w_notInW]
      by_cases hin : a ∈ fs
      · rw [decide_eq_true hin]
        simp_arith []
        exact ⟨hf3, fs, _, _, _, rfl, by omega, hfs⟩
      · rw [decide_eq_false hin]
        simp_arith [f2.1, f2.2]
        refine ⟨by simp [line_eq]; omega, hf3, fs ++ [a], r4, some (.lst false (a.map eP)), r6, by simp [eW, eL], by simp; omega, ?_⟩
        intro b hb
        rcases List.mem_append.1 hb with hb | hb
        · exact hfs b hb
        · rw [List.mem_singleton.1 hb]; exact ⟨by omega, ha⟩
  · rintro _ μ2 ⟨hf2, fs, r4, r5, r6, rfl, hfl, hfs⟩
    have hfl : fs.length ≤ m := by simpa using hfl
    have f3 := nbL_map frzW fs
    simp_arith [f3.1, f3.2]
    rw [w_sortd codW (by omega) alW (.inr fun a _ => rfl)]
    simp_arith []
    have f4 := nbL_map frzW (fs.mergeSort (PySem.W.dataLe false pW))
    refine ⟨hf2, fs.mergeSort (PySem.W.dataLe false pW), by rw [f4.2]; rfl, by rw [List.length_mergeSort]; omega, fun a ha => hfs a (List.mem_mergeSort.1 ha)⟩
end
/-! QI -/
section
variable {μ : Sto} {X : Str → List D → Sto → Prop}
theorem s_law_rules {k most : Nat} {l : FL} (hk : 3 ≤ k) (hl : FD l) (hf : FO μ) (hm : most ≤ 10) : Wp (run pp k (Str.ofString "_law_rules") [.ref 0, eF l, .int 0, .int (most : Nat)]) μ (fun d μ' => FO μ' ∧ ∃ rs, d.fz = eZ rs ∧ rs.length ≤ most ∧ ∀ r ∈ rs, DU (wsF l) r) X := by
  obtain ⟨k, rfl⟩ : ∃ j, k = j + 3 := ⟨k - 3, by omega⟩
  have f0 := frzF l
  have f1 := nbL_map frzF2 l
  have hlen := hl.len
  rw [e__law_rules]
  simp_arith [P85.f__law_rules]
  rw [show ((most : Int) + 1) = ((most + 1 : Nat) : Int) by omega]
  refine (s_draw (many := most + 1) (by omega) hf (by omega) (by omega)).mono ?_
  rintro _ μ1 ⟨hf1, m, rfl, hm2⟩
  simp_arith []
  refine ⟨by omega, ?_⟩
  rw [show ((m : Int) - 0).toNat = m by omega]
  refine wp_for (fun _ _ => False) _ (fun i ρ μ' => FO μ' ∧ ∃ (ds : List D) (rs : List RU) (r5 r6 r7 : Option D), ρ = [some (.ref 0), some (eF l), some (.int 0), some (.int (most : Nat)), some (.lst true ds), r5, r6, r7] ∧ D.fzL ds = rs.map eU ∧ ds.length ≤ i ∧ rs.length = ds.length ∧ ∀ r ∈ rs, DU (wsF l) r) _ _ ⟨hf1, [], [], none, none, none, rfl, rfl, by simp, rfl, by simp⟩ ?_ ?_ (fun _ _ h => h.elim)
  · rintro i hi _ μ2 ⟨hf2, ds, rs, r5, r6, r7, rfl, hds, hdl, hrl, hrs⟩
    have hi' : i < m := by simpa using hi
    simp only [List.getElem_map, List.getElem_range]
    simp_arith [f0.1, f0.2, u_F, f1.1, f1.2]
    refine ⟨by omega, ?_⟩
    rw [show ((l.length : Int) - 0).toNat = l.length by omega]
    refine wp_for (fun _ _ => False) _ (fun j ρ μ' => FO μ' ∧ ∃ (a : PR) (r5 r7 : Option D), ρ = [some (.ref 0), some (.lst false (l.map fl2)), some (.int 0), some (.int (most : Nat)), some (.lst true ds), r5, some (.lst true (a.map eP)), r7] ∧ a.length ≤ j ∧ ∀ q ∈ a, DP (wsF l) q) _ _ ⟨hf2, [], _, _, rfl, by simp, by simp⟩ ?_ ?_ (fun _ _ h => h.elim)
    · rintro j hj _ μ3 ⟨hf3, a, r4, r6, rfl, hal, ha⟩
      have hj' : j < l.length := by simpa using hj
      simp only [List.getElem_map, List.getElem_range]
      rw [show ((0 : Int) + (j : Nat)) = (j : Int) by omega]
      simp_arith []
      refine (s_draw (many := 2) (by omega) hf3 (by omega) (by omega)).mono ?_
      rintro _ μ4 ⟨hf4, z, rfl, hz⟩
      simp_arith []
      obtain ⟨x, hx⟩ := fld_nat hj'
      obtain ⟨n, hn, hn0, hn4⟩ := hl.szW_pos hj'
      cases decide ((z : Int) = 0) with
      | false =>
        simp_arith []
        exact ⟨hf4, a, _, _, rfl, by omega, ha⟩
      | true =>
        simp_arith [f1.1, f1.2, hx, atI_1]
        rw [hn]
        refine (s_draw (by omega) hf4 hn0 (by omega)).mono ?_
        rintro _ μ5 ⟨hf5, w, rfl, hw⟩
        (try simp_arith [])
        refine ⟨by simp [line_eq]; omega, hf5, a ++ [((j : Int), (w : Int))], r4, some (.int (j : Nat)), by simp [eP], by simp; omega, ?_⟩
        intro q hq
        rcases List.mem_append.1 hq with hq | hq
        · exact ha q hq
        · rw [List.mem_singleton.1 hq]
          exact ⟨by simp only; omega, by simp only [wsF_len]; omega, by simp only; omega, by simp only [hn]; omega⟩
    · rintro _ μ3 ⟨hf3, a, r5, r7, rfl, hal, ha⟩
      rw [List.length_map, List.length_range] at hal
      have f2 := nbL_map frzP a
      rw [← u_F]
      simp_arith [f2.1, f2.2, f0.1, f0.2]
      refine (s_law_acts (by omega) hl hf3).mono ?_
      rintro d μ4 ⟨hf4, as, hd, hasl, has⟩
      (try simp_arith [])
      refine ⟨by simp [line_eq]; omega, hf4, ds ++ [.tup [.lst false (a.map eP), d]], rs ++ [(a, as)], r5, some (.lst false (a.map eP)), r7, rfl, ?_, by simp; omega, by simp; omega, ?_⟩
      · rw [fzL_app, hds, List.map_append]
        simp [D.fzL, D.fz, f2.2, hd, eU, u_W]
      · intro r hr
        rcases List.mem_append.1 hr with hr | hr
        · exact hrs r hr
        · rw [List.mem_singleton.1 hr]; exact ⟨⟨by simp only; omega, ha⟩, hasl, has⟩
  · rintro _ μ2 ⟨hf2, ds, rs, r5, r6, r7, rfl, hds, hdl, hrl, hrs⟩
    have hdl : ds.length ≤ m := by simpa using hdl
    simp_arith [D.isX, hds]
    exact ⟨hf2, rs, rfl, by omega, hrs⟩
theorem cut_take {α : Type} (e : α → D) (as : List α) (i : Nat) : cutD (as.map e) none (some (i : Int)) = (as.take i).map e := by
  rw [cutD, HT.sIx_nat]
  simp [HT.sIx]
theorem cut_drop {α : Type} (e : α → D) (as : List α) (i : Nat) : cutD (as.map e) (some (i : Int)) none = (as.drop i).map e := by
  rw [cutD, HT.sIx_nat]
  simp [HT.sIx]
  by_cases h : i ≤ as.length
  · rw [Nat.min_eq_left h, List.take_of_length_le (by simp)]
  · rw [Nat.min_eq_right (by omega), List.drop_eq_nil_of_le (by simp), List.drop_eq_nil_of_le (by simp <;> omega)]; simp
theorem cut_t1 {α : Type} (e : α → D) (as : List α) : cutD (as.map e) none (some 1) = (as.take 1).map e := cut_take e as 1
theorem cut_d1 {α : Type} (e : α → D) (as : List α) : cutD (as.map e) (some 1) none = (as.drop 1).map e := cut_drop e as 1
theorem cut_m1 {α : Type} (e : α → D) (as : List α) : cutD (as.map e) (some (-1)) none = (as.drop (as.length - 1)).map e := by
  rw [cutD]
  simp [HT.sIx]
  rw [show ((-1 : Int) + (as.length : Int)).toNat = as.length - 1 by omega, List.take_of_length_le (by simp)]
theorem PQ.app {xs ys : PR} (h1 : ∀ q ∈ xs, PQ q) (h2 : ∀ q ∈ ys, PQ q) : ∀ q ∈ xs ++ ys, PQ q := fun q hq => (List.mem_append.1 hq).elim (h1 q) (h2 q)
theorem PQ.cons {x : Pr} {xs : PR} (h1 : PQ x) (h2 : ∀ q ∈ xs, PQ q) : ∀ q ∈ x :: xs, PQ q := fun q hq => (List.mem_cons.1 hq).elim (fun e => e ▸ h1) (h2 q)
theorem PQ.nil : ∀ q ∈ ([] : PR), PQ q := fun _ h => nomatch h
theorem pq_small {a b : Int} (h1 : a.natAbs ≤ 10 ^ 20) (h2 : b.natAbs ≤ 10 ^ 20) : PQ (a, b) := ⟨Nat.le_trans h1 (by decide), Nat.le_trans h2 (by decide)⟩
end
/-! QJ -/
theorem pw_nil : PW [] := ⟨by simp, PQ.nil⟩
theorem pz_app {as bs : List RU} (h1 : PZ as) (h2 : PZ bs) (h : as.length + bs.length ≤ 70) : PZ (as ++ bs) := ⟨by simpa using h, fun r hr => (List.mem_append.1 hr).elim (h1.2 r) (h2.2 r)⟩
theorem pz_nil : PZ [] := ⟨by simp, fun _ h => nomatch h⟩
theorem pz_one {r : RU} (h : PU r) : PZ [r] := ⟨by simp, fun q hq => by rw [List.mem_singleton.1 hq]; exact h⟩
section
variable {μ : Sto} {X : Str → List D → Sto → Prop}
theorem wp_forU {f : D → Env → M Fl} (R : D → Sto → Prop) {X : Str → List D → Sto → Prop} {Q : Fl → Sto → Prop} (os : List RU) {xs : List D} (hx : xs = os.map eU) (I : Nat → Env → Sto → Prop) (ρ : Env) (μ : Sto) (h0 : I 0 ρ μ)
    (h1 : ∀ i (h : i < os.length) ρ μ, I i ρ μ → Wp (f (eU os[i]) ρ) μ (FlI (I (i + 1)) R) X) (h2 : ∀ ρ μ, I os.length ρ μ → Q (.nx ρ) μ) (h3 : ∀ d μ, R d μ → Q (.rt d) μ) : Wp (forL f xs ρ) μ Q X := by
  subst hx
  refine wp_for R _ I ρ μ h0 ?_ ?_ h3
  · intro i hi ρ μ h
    have hi' : i < os.length := by simpa using hi
    rw [List.getElem_map]
    exact h1 i hi' ρ μ h
  · intro ρ μ h
    rw [List.length_map] at h
    exact h2 ρ μ h
end
/-! QK -/
/-! rules anew: all their lists are owned -/
def oW (a : PR) : D := .lst true (a.map eP)
def oA (as : List PR) : D := .lst true (as.map oW)
def oU (r : RU) : D := .tup [oW r.1, oA r.2]
def oZ (rs : List RU) : D := .lst true (rs.map oU)
theorem oW_fz (a : PR) : (oW a).fz = eW a := by simp [oW, D.fz, fzL_map, u_W, (frzP _).2]
theorem oA_fz (as : List PR) : (oA as).fz = eA as := by simp [oA, D.fz, fzL_map, u_A, oW_fz]
theorem oU_fz (r : RU) : (oU r).fz = eU r := by simp [oU, D.fz, D.fzL, oW_fz, oA_fz, u_U]
theorem oZ_fz (rs : List RU) : (oZ rs).fz = eZ rs := by simp [oZ, D.fz, fzL_map, u_Z, oU_fz]
theorem oU_map (rs : List RU) : D.fzL (rs.map oU) = rs.map eU := by rw [fzL_map]; simp [oU_fz]
theorem w_slZ {μ : Sto} {X : Str → List D → Sto → Prop} {rs : List RU} {l h : Option Int} {Q : D → Sto → Prop} : Wp (slcD (eZ rs) l h) μ Q X = Q (.lst true (cutD (rs.map eU) l h)) μ := by rw [u_Z, w_slL]
theorem w_lenZ {μ : Sto} {X : Str → List D → Sto → Prop} {rs : List RU} {Q : D → Sto → Prop} : Wp (bltD .len (eZ rs)) μ Q X = Q (.int rs.length) μ := by rw [u_Z, w_len, List.length_map]
theorem w_ixZ {μ : Sto} {X : Str → List D → Sto → Prop} {rs : List RU} {i : Int} {Q : D → Sto → Prop} : Wp (idxD (eZ rs) (.int i)) μ Q X = Wp (ofO (L2.atI (rs.map eU) i)) μ Q X := by rw [u_Z, w_ixL]
section
variable {μ : Sto} {X : Str → List D → Sto → Prop} {Φ : Cfg} {ρ : Env} {Q : D → Sto → Prop}
theorem w_addM {a b : E} : Wp (evE Φ (.addM a b) ρ) μ Q X = Wp (evE Φ a ρ) μ (fun x μ1 => Wp (evE Φ b ρ) μ1 (fun y μ2 => Wp (addMD x y) μ2 Q X) X) X := by
  simp only [evE, wp_bind]
theorem w_addMD {b c : Bool} {as bs : List D} : Wp (addMD (.lst b as) (.lst c bs)) μ Q X = ((as ++ bs).length ≤ LINE ∧ Q (.lst true (as ++ bs)) μ) := by
  show Wp (guard' (decide ((as ++ bs).length ≤ LINE)) (M.ret (.lst true (as ++ bs)))) μ Q X = _
  rw [wp_guard, wp_ret, decide_eq_true_eq]
end
section
variable {μ : Sto} {X : Str → List D → Sto → Prop}
theorem s_acts_anew {k : Nat} {as : List PR} (hk : 1 ≤ k) (ha : as.length ≤ 100) : Wp (run pp k (Str.ofString "acts_anew") [eA as]) μ (fun d μ' => μ' = μ ∧ d = oA as) X := by
  obtain ⟨k, rfl⟩ : ∃ j, k = j + 1 := ⟨k - 1, by omega⟩
  have f := nbL_map frzW as
  rw [e_acts_anew]
  simp_arith [P85.f_acts_anew, u_A, f.1, f.2]
  refine wp_mapV eW oW as [] _ (by simp [line_eq]; omega) ?_ ?_
  · intro a _
    have g := nbL_map frzP a
    simp_arith [u_W, g.1, g.2]
    simp [oW]
  · simp_arith []
    rfl
theorem s_rule_anew {k : Nat} {r : RU} (hk : 2 ≤ k) (hr : smU r) : Wp (run pp k (Str.ofString "rule_anew") [eU r]) μ (fun d μ' => μ' = μ ∧ d = oU r) X := by
  obtain ⟨k, rfl⟩ : ∃ j, k = j + 2 := ⟨k - 2, by omega⟩
  have f := frzU r
  have g := frzW r.1
  have h := frzA r.2
  have g2 := nbL_map frzP r.1
  rw [e_rule_anew]
  simp_arith [P85.f_rule_anew, f.1, f.2]
  rw [u_U]
  simp_arith [g.1, g.2, h.1, h.2]
  rw [u_W]
  simp_arith [g2.1, g2.2]
  refine (s_acts_anew (by omega) hr.2.1).mono ?_
  rintro d μ1 ⟨hμ, hd⟩
  subst hμ; subst hd
  simp_arith []
  rfl
theorem s_rules_anew {k : Nat} {rs : List RU} (hk : 3 ≤ k) (hr : rs.length ≤ 100) (hs : ∀ r ∈ rs, smU r) : Wp (run pp k (Str.ofString "rules_anew") [eZ rs]) μ (fun d μ' => μ' = μ ∧ d = oZ rs) X := by
  obtain ⟨k, rfl⟩ : ∃ j, k = j + 3 := ⟨k - 3, by omega⟩
  have f := nbL_map frzU rs
  rw [e_rules_anew]
  simp_arith [P85.f_rules_anew, u_Z, f.1, f.2]
  refine wp_mapV eU oU rs [] _ (by simp [line_eq]; omega) ?_ ?_
  · intro r hr'
    have g := frzU r
    simp_arith [g.1, g.2]
    refine (s_rule_anew (by omega) (hs r hr')).mono ?_
    rintro d μ1 ⟨hμ, hd⟩
    subst hμ; subst hd
    exact ⟨rfl, rfl⟩
  · simp_arith []
    rfl
theorem w_eqTT {t u : Tb} {Q : D → Sto → Prop} : Wp (cmpD .eq (eT t) (eT u)) μ Q X = Q (.bl (decide (t = u))) μ := by
  simp only [cmpD, codT.eqD (by omega), Option.map, wp_some]
/-- a rule put in -/
def insF (rs : List RU) (i : Nat) (r : RU) : List RU := rs.take i ++ [r] ++ rs.drop i
def delF (rs : List RU) (i : Nat) : List RU := rs.take i ++ rs.drop (i + 1)
def exF (rs : List RU) (i : Nat) : List RU := rs.take i ++ [rs.getD (i + 1) ([], []), rs.getD i ([], [])] ++ rs.drop (i + 2)
theorem oZ_ins (rs : List RU) (i : Nat) (r : RU) : D.lst true (((rs.take i).map oU ++ [oU r]) ++ (rs.drop i).map oU) = oZ (insF rs i r) := by simp [oZ, insF]
theorem s_with_rule {k : Nat} {l : FL} {rs : List RU} {r : RU} {at' : Int} {Q : D → Sto → Prop} (hk : 8 ≤ k) (hr : rs.length ≤ 100) (hs : ∀ r ∈ rs, smU r) (hu : smU r)
    (h1 : ¬ (0 ≤ at' ∧ at' ≤ rs.length) → X (Str.ofString "NoPlace") [.int at'] μ)
    (h2 : ∀ i : Nat, at' = i → i ≤ rs.length → okU (wsF l) r = false → X (Str.ofString "BadRule") [.int at'] μ)
    (h3 : ∀ i : Nat, at' = i → i ≤ rs.length → okU (wsF l) r = true → 64 ≤ rs.length → X (Str.ofString "BadRule") [.int (-1)] μ)
    (h4 : ∀ i : Nat, at' = i → i ≤ rs.length → okU (wsF l) r = true → rs.length < 64 → Q (oZ (insF rs i r)) μ) :
    Wp (run pp k (Str.ofString "with_rule") [eF l, eZ rs, .int at', eU r]) μ Q X := by
  obtain ⟨k, rfl⟩ : ∃ j, k = j + 8 := ⟨k - 8, by omega⟩
  have f1 := frzF l
  have f2 := frzZ rs
  have f3 := frzU r
  rw [e_with_rule]
  simp_arith [P85.f_with_rule, f1.1, f1.2, f2.1, f2.2, f3.1, f3.2, w_lenZ]
  by_cases c1 : 0 ≤ at'
  · rw [decide_eq_true c1]
    simp_arith [w_lenZ, f2.1, f2.2]
    by_cases c2 : at' ≤ rs.length
    · rw [decide_eq_true c2]
      obtain ⟨i, rfl⟩ : ∃ i : Nat, at' = i := ⟨at'.toNat, by omega⟩
      have hi : i ≤ rs.length := by omega
      simp_arith [f1.1, f1.2, f3.1, f3.2]
      refine (s_is_rule (by omega) hu).mono ?_
      rintro d μ1 ⟨hμ, hd⟩
      subst hμ; subst hd
      simp_arith []
      cases hb : okU (wsF l) r with
      | false =>
        simp_arith []
        exact h2 i rfl hi hb
      | true =>
        simp_arith [f2.1, f2.2, w_lenZ, gl_MOST_RULES]
        by_cases c3 : (64 : Int) ≤ rs.length
        · rw [decide_eq_true c3]
          simp_arith []
          exact h3 i rfl hi hb (by omega)
        · rw [decide_eq_false c3]
          have t1 := nbL_map frzU (rs.take i)
          have t2 := nbL_map frzU (rs.drop i)
          have st : ∀ r ∈ rs.take i, smU r := fun r h => hs r (List.mem_of_mem_take h)
          have sd : ∀ r ∈ rs.drop i, smU r := fun r h => hs r (List.mem_of_mem_drop h)
          have lt : (rs.take i).length ≤ 100 := by simp; omega
          have ld : (rs.drop i).length ≤ 100 := by simp; omega
          simp_arith [w_addM, f2.1, f2.2, w_slZ, cut_take, t1.1, t1.2]
          rw [← u_Z]
          refine (s_rules_anew (by omega) lt st).mono ?_
          rintro d μ2 ⟨hμ, hd⟩
          subst hμ; subst hd
          simp_arith [f3.1, f3.2]
          refine (s_rule_anew (by omega) hu).mono ?_
          rintro d μ3 ⟨hμ, hd⟩
          subst hμ; subst hd
          (try simp_arith [])
          rw [oZ, w_addMD]
          refine ⟨by simp only [line_eq, List.length_append, List.length_map, List.length_cons, List.length_nil]; omega, ?_⟩
          simp_arith [f2.1, f2.2, w_slZ, cut_drop, t2.1, t2.2]
          rw [← u_Z]
          refine (s_rules_anew (by omega) ld sd).mono ?_
          rintro d μ4 ⟨hμ, hd⟩
          subst hμ; subst hd
          rw [oZ, w_addMD]
          refine ⟨by simp only [line_eq, List.length_append, List.length_map, List.length_cons, List.length_nil]; omega, ?_⟩
          (try simp_arith [])
          rw [oZ_ins]
          exact h4 i rfl hi hb (by omega)
    · rw [decide_eq_false c2]
      simp_arith []
      exact h1 fun h => c2 h.2
  · rw [decide_eq_false c1]
    simp_arith []
    exact h1 fun h => c1 h.1
theorem s_without_rule {k : Nat} {rs : List RU} {at' : Int} {Q : D → Sto → Prop} (hk : 5 ≤ k) (hr : rs.length ≤ 100) (hs : ∀ r ∈ rs, smU r)
    (h1 : ¬ (0 ≤ at' ∧ at' < rs.length) → X (Str.ofString "NoPlace") [.int at'] μ) (h2 : ∀ i : Nat, at' = i → i < rs.length → Q (oZ (delF rs i)) μ) :
    Wp (run pp k (Str.ofString "without_rule") [eZ rs, .int at']) μ Q X := by
  obtain ⟨k, rfl⟩ : ∃ j, k = j + 5 := ⟨k - 5, by omega⟩
  have f2 := frzZ rs
  rw [e_without_rule]
  simp_arith [P85.f_without_rule, f2.1, f2.2, w_lenZ]
  by_cases c1 : 0 ≤ at'
  · rw [decide_eq_true c1]
    simp_arith [w_lenZ, f2.1, f2.2]
    by_cases c2 : at' < rs.length
    · rw [decide_eq_true c2]
      obtain ⟨i, rfl⟩ : ∃ i : Nat, at' = i := ⟨at'.toNat, by omega⟩
      have hi : i < rs.length := by omega
      have hcd : cutD (rs.map eU) (some ((i : Int) + 1)) none = (rs.drop (i + 1)).map eU := cut_drop eU rs (i + 1)
      have t1 := nbL_map frzU (rs.take i)
      have t2 := nbL_map frzU (rs.drop (i + 1))
      have t3 := nbL_map frzU (delF rs i)
      have hl : (delF rs i).length ≤ 100 := by simp [delF]; omega
      have e1 : D.lst false ((rs.take i).map eU ++ (rs.drop (i + 1)).map eU) = eZ (delF rs i) := by rw [u_Z, delF, List.map_append]
      simp_arith [f2.1, f2.2, w_slZ, cut_take, hcd, t1.1, t1.2, t2.1, t2.2, fzL_app]
      refine ⟨by simp only [line_eq, List.length_take, List.length_drop]; omega, ?_⟩
      rw [e1]
      refine (s_rules_anew (by omega) hl ?_).mono ?_
      · intro r h
        rcases List.mem_append.1 (show r ∈ rs.take i ++ rs.drop (i + 1) from h) with h | h
        · exact hs r (List.mem_of_mem_take h)
        · exact hs r (List.mem_of_mem_drop h)
      rintro d μ2 ⟨hμ, hd⟩
      subst hμ; subst hd
      (try simp_arith [])
      exact h2 i rfl hi
    · rw [decide_eq_false c2]
      simp_arith []
      exact h1 fun h => c2 h.2
  · rw [decide_eq_false c1]
    simp_arith []
    exact h1 fun h => c1 h.1
theorem ex_mem {rs : List RU} {i : Nat} (hi : i + 1 < rs.length) {P : RU → Prop} (h : ∀ r ∈ rs, P r) : ∀ r ∈ exF rs i, P r := by
  intro r hr
  rcases List.mem_append.1 (show r ∈ rs.take i ++ [rs.getD (i + 1) ([], []), rs.getD i ([], [])] ++ rs.drop (i + 2) from hr) with hr | hr
  · rcases List.mem_append.1 hr with hr | hr
    · exact h r (List.mem_of_mem_take hr)
    · simp only [List.mem_cons, List.not_mem_nil, or_false] at hr
      rcases hr with rfl | rfl
      · exact h _ (getD_mem (d := ([], [])) hi)
      · exact h _ (getD_mem (d := ([], [])) (by omega))
  · exact h r (List.mem_of_mem_drop hr)
theorem ex_len {rs : List RU} {i : Nat} (hi : i + 1 < rs.length) : (exF rs i).length = rs.length := by simp [exF]; omega
theorem s_exchanged_rules {k : Nat} {rs : List RU} {at' : Int} {Q : D → Sto → Prop} (hk : 5 ≤ k) (hr : rs.length ≤ 100) (hs : ∀ r ∈ rs, smU r)
    (h1 : ¬ (0 ≤ at' ∧ at' < (rs.length : Int) - 1) → X (Str.ofString "NoPlace") [.int at'] μ) (h2 : ∀ i : Nat, at' = i → i + 1 < rs.length → Q (oZ (exF rs i)) μ) :
    Wp (run pp k (Str.ofString "exchanged_rules") [eZ rs, .int at']) μ Q X := by
  obtain ⟨k, rfl⟩ : ∃ j, k = j + 5 := ⟨k - 5, by omega⟩
  have f2 := frzZ rs
  rw [e_exchanged_rules]
  simp_arith [P85.f_exchanged_rules, f2.1, f2.2, w_lenZ]
  by_cases c1 : 0 ≤ at'
  · rw [decide_eq_true c1]
    simp_arith [w_lenZ, f2.1, f2.2]
    by_cases c2 : at' < (rs.length : Int) - 1
    · rw [decide_eq_true c2]
      obtain ⟨i, rfl⟩ : ∃ i : Nat, at' = i := ⟨at'.toNat, by omega⟩
      have hi : i + 1 < rs.length := by omega
      have hcd : cutD (rs.map eU) (some ((i : Int) + 2)) none = (rs.drop (i + 2)).map eU := cut_drop eU rs (i + 2)
      have g1 := eL_getD eU rs ([], []) i (by omega)
      have g2 : L2.atI (rs.map eU) ((i : Int) + 1) = some (eU (rs.getD (i + 1) ([], []))) := eL_getD eU rs ([], []) (i + 1) hi
      have fa := frzU (rs.getD i ([], []))
      have fb := frzU (rs.getD (i + 1) ([], []))
      have t1 := nbL_map frzU (rs.take i)
      have t2 := nbL_map frzU (rs.drop (i + 2))
      have hl : (exF rs i).length ≤ 100 := by rw [ex_len hi]; exact hr
      have hm := ex_mem hi hs
      have e1 : D.lst false ((rs.take i).map eU ++ [eU (rs.getD (i + 1) ([], [])), eU (rs.getD i ([], []))] ++ (rs.drop (i + 2)).map eU) = eZ (exF rs i) := by rw [u_Z, exF, List.map_append, List.map_append]; rfl
      simp_arith [f2.1, f2.2, w_slZ, w_ixZ, g1, g2, cut_take, hcd, t1.1, t1.2, t2.1, t2.2, fa.1, fa.2, fb.1, fb.2, fzL_app]
      refine ⟨by simp only [line_eq, List.length_take]; omega, by simp only [line_eq, List.length_take, List.length_drop]; omega, ?_⟩
      rw [e1]
      refine (s_rules_anew (by omega) hl hm).mono ?_
      rintro d μ2 ⟨hμ, hd⟩
      subst hμ; subst hd
      (try simp_arith [])
      exact h2 i rfl hi
    · rw [decide_eq_false c2]
      simp_arith []
      exact h1 fun h => c2 h.2
  · rw [decide_eq_false c1]
    simp_arith []
    exact h1 fun h => c1 h.1
theorem s_may_exchange {k i : Nat} {l : FL} {rs : List RU} (hk : 7 ≤ k) (hl : FD l) (hr : DZ (wsF l) rs) (hi : i + 1 < rs.length) : Wp (run pp k (Str.ofString "may_exchange") [eF l, eZ rs, .int (i : Nat)]) μ (fun d μ' => μ' = μ ∧ d = .bl (decide (tabF (wsF l) (exF rs i) = tabF (wsF l) rs))) X := by
  obtain ⟨k, rfl⟩ : ∃ j, k = j + 7 := ⟨k - 7, by omega⟩
  have f0 := frzF l
  have f2 := frzZ rs
  have hx : DZ (wsF l) (exF rs i) := ⟨by rw [ex_len hi]; exact hr.1, ex_mem hi hr.2⟩
  rw [e_may_exchange]
  simp_arith [P85.f_may_exchange, f0.1, f0.2, f2.1, f2.2]
  refine s_exchanged_rules (by omega) hr.sm.1 hr.sm.2 (fun h => absurd ⟨by omega, by omega⟩ h) fun j e hj => ?_
  have e : j = i := by omega
  subst e
  simp_arith [oZ_fz]
  refine (s_table_of_rules (by omega) hl hx).mono ?_
  rintro d μ1 ⟨hμ, hd⟩
  subst hμ; subst hd
  (try simp_arith [f0.1, f0.2, f2.1, f2.2])
  refine (s_table_of_rules (by omega) hl hr).mono ?_
  rintro d μ1 ⟨hμ, hd⟩
  subst hμ; subst hd
  simp_arith [oT_fz, w_eqTT]
end
/-! QL -/
/-! what a deed gives -/
inductive Out where
  | place | bad (j : Int) | rules (zs : List RU)
def lim : Nat → Nat → Int
  | 0, n => n + 1
  | 1, n => n
  | _, n => (n : Int) - 1
def outF (ws : List Nat) (rs : List RU) (p : Int) (r : RU) (w : Nat) : Out :=
  if 0 ≤ p ∧ p < lim w rs.length then
    if w = 0 then (if okU ws r then (if 63 < rs.length then .bad (-1) else .rules (insF rs p.toNat r)) else .bad p)
    else if w = 1 then .rules (delF rs p.toNat) else .rules (exF rs p.toNat)
  else .place
def dueD (p : Int) : Out → D
  | .place => .tup [.str (Str.ofString "place"), .int p]
  | .bad j => .tup [.str (Str.ofString "bad"), .int j]
  | .rules zs => .tup [.str (Str.ofString "rules"), eZ zs]
def askD (p : Int) : Out → D
  | .place => .tup [.str (Str.ofString "place"), .int p]
  | .bad j => .tup [.str (Str.ofString "bad"), .int j]
  | .rules zs => .tup [.str (Str.ofString "rules"), oZ zs]
theorem askD_fz (p : Int) (o : Out) : (askD p o).fz = dueD p o := by cases o <;> simp [askD, dueD, D.fz, D.fzL, oZ_fz]
theorem out_no {ws : List Nat} {rs : List RU} {p : Int} {r : RU} {w : Nat} (h : ¬ (0 ≤ p ∧ p < lim w rs.length)) : outF ws rs p r w = .place := by rw [outF, if_neg h]
theorem out_0b {ws : List Nat} {rs : List RU} {i : Nat} {r : RU} (h : i ≤ rs.length) (hb : okU ws r = false) : outF ws rs i r 0 = .bad i := by
  rw [outF, if_pos ⟨by omega, by simp only [lim]; omega⟩]
  simp [hb]
theorem out_0m {ws : List Nat} {rs : List RU} {i : Nat} {r : RU} (h : i ≤ rs.length) (hb : okU ws r = true) (hm : 63 < rs.length) : outF ws rs i r 0 = .bad (-1) := by
  rw [outF, if_pos ⟨by omega, by simp only [lim]; omega⟩]
  simp [hb, hm]
theorem out_0 {ws : List Nat} {rs : List RU} {i : Nat} {r : RU} (h : i ≤ rs.length) (hb : okU ws r = true) (hm : ¬ 63 < rs.length) : outF ws rs i r 0 = .rules (insF rs i r) := by
  rw [outF, if_pos ⟨by omega, by simp only [lim]; omega⟩]
  simp [hb, hm]
theorem out_1 {ws : List Nat} {rs : List RU} {i : Nat} {r : RU} (h : i < rs.length) : outF ws rs i r 1 = .rules (delF rs i) := by
  rw [outF, if_pos ⟨by omega, by simp only [lim]; omega⟩]
  simp
theorem out_2 {ws : List Nat} {rs : List RU} {i : Nat} {r : RU} (h : i + 1 < rs.length) : outF ws rs i r 2 = .rules (exF rs i) := by
  rw [outF, if_pos ⟨by omega, by simp only [lim]; omega⟩]
  simp
section
variable {μ : Sto} {X : Str → List D → Sto → Prop}
theorem atL_0 {α : Type} (a b c : α) : L2.atI [a, b, c] 0 = some a := by with_unfolding_all rfl
theorem atL_1 {α : Type} (a b c : α) : L2.atI [a, b, c] 1 = some b := by with_unfolding_all rfl
theorem atL_2 {α : Type} (a b c : α) : L2.atI [a, b, c] 2 = some c := by with_unfolding_all rfl
theorem s_due_0 {k : Nat} {l : FL} {rs : List RU} {p : Int} {r : RU} (hk : 7 ≤ k) (hr : rs.length ≤ 100) (hu : smU r) : Wp (run pp k (Str.ofString "_law_due") [eF l, eZ rs, .int p, eU r, .int 0]) μ (fun d μ' => μ' = μ ∧ d.fz = dueD p (outF (wsF l) rs p r 0)) X := by
  obtain ⟨k, rfl⟩ : ∃ j, k = j + 7 := ⟨k - 7, by omega⟩
  have f1 := frzF l
  have f2 := frzZ rs
  have f3 := frzU r
  rw [e__law_due]
  simp_arith [P85.f__law_due, f1.1, f1.2, f2.1, f2.2, f3.1, f3.2, w_lenZ, atL_0]
  have no : ¬ (0 ≤ p ∧ p < lim 0 rs.length) → D.fz (.tup [.str (Str.ofString "place"), .int p]) = dueD p (outF (wsF l) rs p r 0) := fun h => by rw [out_no h]; rfl
  by_cases c1 : 0 ≤ p
  · rw [decide_eq_true c1]
    simp_arith [atL_0]
    by_cases c2 : p < (rs.length : Int) + 1
    · rw [decide_eq_true c2]
      obtain ⟨i, rfl⟩ : ∃ i : Nat, p = i := ⟨p.toNat, by omega⟩
      have hi : i ≤ rs.length := by omega
      simp_arith [f1.1, f1.2, f3.1, f3.2]
      refine (s_law_is_rule (by omega) hu).mono ?_
      rintro d μ1 ⟨hμ, hd⟩
      subst hμ; subst hd
      simp_arith []
      cases hb : okU (wsF l) r with
      | false =>
        simp_arith []
        rw [out_0b hi hb]; rfl
      | true =>
        simp_arith []
        by_cases c3 : (63 : Int) < rs.length
        · rw [decide_eq_true c3]
          simp_arith []
          rw [out_0m hi hb (by omega)]; rfl
        · rw [decide_eq_false c3]
          have t1 := nbL_map frzU (rs.take i)
          have t2 := nbL_map frzU (rs.drop i)
          simp_arith [f2.1, f2.2, f3.1, f3.2, w_slZ, cut_take, cut_drop, t1.1, t1.2, t2.1, t2.2, fzL_app]
          refine ⟨by simp only [line_eq, List.length_take]; omega, by simp only [line_eq, List.length_take, List.length_drop]; omega, ?_⟩
          rw [out_0 hi hb (by omega)]
          simp [dueD, insF, u_Z, t1.2, t2.2, f3.2]
    · rw [decide_eq_false c2]
      simp_arith []
      exact no fun h => c2 h.2
  · rw [decide_eq_false c1]
    simp_arith []
    exact no fun h => c1 h.1
theorem s_due_1 {k : Nat} {l : FL} {rs : List RU} {p : Int} {r : RU} {rd : D} (hk : 7 ≤ k) (hr : rs.length ≤ 100) (hu : rd.nb = true ∧ rd.fz = rd) : Wp (run pp k (Str.ofString "_law_due") [eF l, eZ rs, .int p, rd, .int 1]) μ (fun d μ' => μ' = μ ∧ d.fz = dueD p (outF (wsF l) rs p r 1)) X := by
  obtain ⟨k, rfl⟩ : ∃ j, k = j + 7 := ⟨k - 7, by omega⟩
  have f1 := frzF l
  have f2 := frzZ rs
  rw [e__law_due]
  simp_arith [P85.f__law_due, f1.1, f1.2, f2.1, f2.2, hu.1, hu.2, w_lenZ, atL_1]
  have no : ¬ (0 ≤ p ∧ p < lim 1 rs.length) → D.fz (.tup [.str (Str.ofString "place"), .int p]) = dueD p (outF (wsF l) rs p r 1) := fun h => by rw [out_no h]; rfl
  by_cases c1 : 0 ≤ p
  · rw [decide_eq_true c1]
    simp_arith [atL_1]
    by_cases c2 : p < (rs.length : Int)
    · rw [decide_eq_true c2]
      obtain ⟨i, rfl⟩ : ∃ i : Nat, p = i := ⟨p.toNat, by omega⟩
      have hi : i < rs.length := by omega
      have n0 : decide ((1 : Int) = 0) = false := by decide
      have hcd : cutD (rs.map eU) (some ((i : Int) + 1)) none = (rs.drop (i + 1)).map eU := cut_drop eU rs (i + 1)
      have t1 := nbL_map frzU (rs.take i)
      have t2 := nbL_map frzU (rs.drop (i + 1))
      simp_arith [n0, f2.1, f2.2, w_slZ, cut_take, hcd, t1.1, t1.2, t2.1, t2.2, fzL_app]
      refine ⟨by simp only [line_eq, List.length_take, List.length_drop]; omega, ?_⟩
      rw [out_1 hi]
      simp [dueD, delF, u_Z, t1.2, t2.2]
    · rw [decide_eq_false c2]
      simp_arith []
      exact no fun h => c2 h.2
  · rw [decide_eq_false c1]
    simp_arith []
    exact no fun h => c1 h.1
theorem s_due_2 {k : Nat} {l : FL} {rs : List RU} {p : Int} {r : RU} {rd : D} (hk : 7 ≤ k) (hr : rs.length ≤ 100) (hu : rd.nb = true ∧ rd.fz = rd) : Wp (run pp k (Str.ofString "_law_due") [eF l, eZ rs, .int p, rd, .int 2]) μ (fun d μ' => μ' = μ ∧ d.fz = dueD p (outF (wsF l) rs p r 2)) X := by
  obtain ⟨k, rfl⟩ : ∃ j, k = j + 7 := ⟨k - 7, by omega⟩
  have f1 := frzF l
  have f2 := frzZ rs
  rw [e__law_due]
  simp_arith [P85.f__law_due, f1.1, f1.2, f2.1, f2.2, hu.1, hu.2, w_lenZ, atL_2]
  have no : ¬ (0 ≤ p ∧ p < lim 2 rs.length) → D.fz (.tup [.str (Str.ofString "place"), .int p]) = dueD p (outF (wsF l) rs p r 2) := fun h => by rw [out_no h]; rfl
  by_cases c1 : 0 ≤ p
  · rw [decide_eq_true c1]
    simp_arith [atL_2]
    by_cases c2 : p < (rs.length : Int) - 1
    · rw [decide_eq_true c2]
      obtain ⟨i, rfl⟩ : ∃ i : Nat, p = i := ⟨p.toNat, by omega⟩
      have hi : i + 1 < rs.length := by omega
      have n0 : decide ((2 : Int) = 0) = false := by decide
      have n1 : decide ((2 : Int) = 1) = false := by decide
      have hcd : cutD (rs.map eU) (some ((i : Int) + 2)) none = (rs.drop (i + 2)).map eU := cut_drop eU rs (i + 2)
      have g1 := eL_getD eU rs ([], []) i (by omega)
      have g2 : L2.atI (rs.map eU) ((i : Int) + 1) = some (eU (rs.getD (i + 1) ([], []))) := eL_getD eU rs ([], []) (i + 1) hi
      have fa := frzU (rs.getD i ([], []))
      have fb := frzU (rs.getD (i + 1) ([], []))
      have t1 := nbL_map frzU (rs.take i)
      have t2 := nbL_map frzU (rs.drop (i + 2))
      simp_arith [n0, n1, f2.1, f2.2, w_slZ, w_ixZ, g1, g2, cut_take, hcd, t1.1, t1.2, t2.1, t2.2, fa.1, fa.2, fb.1, fb.2, fzL_app]
      refine ⟨by simp only [line_eq, List.length_take]; omega, by simp only [line_eq, List.length_take, List.length_drop]; omega, ?_⟩
      rw [out_2 hi]
      simp only [dueD, exF, u_Z, t1.2, t2.2, fa.2, fb.2, List.map_append, List.map_cons, List.map_nil]
    · rw [decide_eq_false c2]
      simp_arith []
      exact no fun h => c2 h.2
  · rw [decide_eq_false c1]
    simp_arith []
    exact no fun h => c1 h.1
theorem s_law_due {k w : Nat} {l : FL} {rs : List RU} {p : Int} {r : RU} {rd : D} (hk : 7 ≤ k) (hr : rs.length ≤ 100) (hw : w ≤ 2) (hu : rd.nb = true ∧ rd.fz = rd) (h0 : w = 0 → rd = eU r ∧ smU r) : Wp (run pp k (Str.ofString "_law_due") [eF l, eZ rs, .int p, rd, .int (w : Nat)]) μ (fun d μ' => μ' = μ ∧ d.fz = dueD p (outF (wsF l) rs p r w)) X := by
  obtain rfl | rfl | rfl : w = 0 ∨ w = 1 ∨ w = 2 := by omega
  · obtain ⟨rfl, h⟩ := h0 rfl
    exact s_due_0 hk hr h
  · exact s_due_1 hk hr hu
  · exact s_due_2 hk hr hu
end
/-! QM -/
section
variable {μ : Sto} {X : Str → List D → Sto → Prop} {Ψ : Cfg} {ρ : Env}
theorem w_try2 {Q : Fl → Sto → Prop} {c1 c2 : Str} {i1 i2 : Nat} {s : S} {h1 h2 : List S} : Wp (exS Ψ (.try2 c1 i1 h1 c2 i2 h2 s) ρ) μ Q X = ((allNb ρ && decide (i1 < ρ.length) && decide (i2 < ρ.length)) = true ∧ Wp (exS Ψ s ρ) μ Q (fun k fs μ1 => Wp (caughtK Ψ c1 i1 (fun ρ => exSs Ψ h1 ρ) k fs ρ (caughtK Ψ c2 i2 (fun ρ => exSs Ψ h2 ρ) k fs ρ (M.exc k fs))) μ1 Q X)) := by
  simp only [exS, tryK2, wp_guard]
  congr 1
  unfold Wp
  cases h : exS Ψ s ρ μ with
  | ok a μ1 => simp [h]
  | bad => simp [h]
  | exc k fs μ1 => simp only [h]
theorem w_caughtT {Q : Fl → Sto → Prop} {c k : Str} {i : Nat} {hs : List S} {fs : List D} {rest : M Fl} (h : Ψ.xi.sub k c = some true) : Wp (caughtK Ψ c i (fun ρ => exSs Ψ hs ρ) k fs ρ rest) μ Q X = Wp (exSs Ψ hs (ρ.set i (some (.exn k fs)))) μ (fun fl μ1 => Wp (outX i fl) μ1 Q nX) nX := by
  unfold caughtK
  rw [h]
  simp only [wp_nox, wp_bind]
theorem w_caughtF {Q : Fl → Sto → Prop} {c k : Str} {i : Nat} {hs : Env → M Fl} {fs : List D} {rest : M Fl} (h : Ψ.xi.sub k c = some false) : Wp (caughtK Ψ c i hs k fs ρ rest) μ Q X = Wp rest μ Q X := by
  unfold caughtK
  rw [h]
def pkF (k1 : Str) (n1 : Int) (k2 : Str) (d : D) : D → M Fl
  | .int 0 => M.ret (.rt (.tup [.str k1, .int n1]))
  | .int 1 => M.ret (.rt (.tup [.str k2, d]))
  | _ => M.bad
def pkG (Φ : Cfg) (k1 : Str) (n1 : Int) (k2 : Str) (e : E) (ρ : Env) : Option (Option D) → M Fl
  | some (some d) => guard' (!d.isX) (M.bind (evE Φ e ρ) (pkF k1 n1 k2 d))
  | _ => M.bad
theorem w_retPk {Q : Fl → Sto → Prop} {k1 k2 : Str} {n1 : Int} {i : Nat} {e : E} : Wp (exS Ψ (.retPk k1 n1 k2 i e) ρ) μ Q X = Wp (pkG Ψ k1 n1 k2 e ρ ρ[i]?) μ Q X := by with_unfolding_all rfl
theorem w_pkG {Q : Fl → Sto → Prop} {k1 k2 : Str} {n1 : Int} {e : E} {d : D} : Wp (pkG Ψ k1 n1 k2 e ρ (some (some d))) μ Q X = ((!d.isX) = true ∧ Wp (evE Ψ e ρ) μ (fun y μ1 => Wp (pkF k1 n1 k2 d y) μ1 Q X) X) := by
  simp only [pkG, wp_guard, wp_bind]
theorem w_pkF1 {Q : Fl → Sto → Prop} {k1 k2 : Str} {n1 : Int} {d : D} : Wp (pkF k1 n1 k2 d (.int 1)) μ Q X = Q (.rt (.tup [.str k2, d])) μ := by
  rw [show pkF k1 n1 k2 d (.int 1) = M.ret (.rt (.tup [.str k2, d])) from rfl, wp_ret]
variable {Q : D → Sto → Prop}
theorem sub_pp {k : Nat} : (Φ k).xi.sub (Str.ofString "NoPlace") (Str.ofString "NoPlace") = some true := by with_unfolding_all rfl
theorem sub_bp {k : Nat} : (Φ k).xi.sub (Str.ofString "BadRule") (Str.ofString "NoPlace") = some false := by with_unfolding_all rfl
theorem sub_bb {k : Nat} : (Φ k).xi.sub (Str.ofString "BadRule") (Str.ofString "BadRule") = some true := by with_unfolding_all rfl
section
variable {a b c d e f g h : Option D} {x : D} {k : Nat}
theorem w_fldP : Wp (evE (Φ k) (.fld 7 (Str.ofString "k")) [a, b, c, d, e, f, g, some (.exn (Str.ofString "NoPlace") [x]), h]) μ Q X = Q x μ := by
  rw [show evE (Φ k) (.fld 7 (Str.ofString "k")) [a, b, c, d, e, f, g, some (.exn (Str.ofString "NoPlace") [x]), h] = M.ret x by with_unfolding_all rfl, wp_ret]
theorem w_fldB : Wp (evE (Φ k) (.fld 7 (Str.ofString "k")) [a, b, c, d, e, f, g, some (.exn (Str.ofString "BadRule") [x]), h]) μ Q X = Q x μ := by
  rw [show evE (Φ k) (.fld 7 (Str.ofString "k")) [a, b, c, d, e, f, g, some (.exn (Str.ofString "BadRule") [x]), h] = M.ret x by with_unfolding_all rfl, wp_ret]
theorem w_isP1 : Wp (evE (Φ k) (.isE 7 (Str.ofString "WayError")) [a, b, c, d, e, f, g, some (.exn (Str.ofString "NoPlace") [x]), h]) μ Q X = Q (.bl true) μ := by
  rw [show evE (Φ k) (.isE 7 (Str.ofString "WayError")) [a, b, c, d, e, f, g, some (.exn (Str.ofString "NoPlace") [x]), h] = M.ret (.bl true) by with_unfolding_all rfl, wp_ret]
theorem w_isP2 : Wp (evE (Φ k) (.isE 7 (Str.ofString "BadRule")) [a, b, c, d, e, f, g, some (.exn (Str.ofString "NoPlace") [x]), h]) μ Q X = Q (.bl false) μ := by
  rw [show evE (Φ k) (.isE 7 (Str.ofString "BadRule")) [a, b, c, d, e, f, g, some (.exn (Str.ofString "NoPlace") [x]), h] = M.ret (.bl false) by with_unfolding_all rfl, wp_ret]
theorem w_isP3 : Wp (evE (Φ k) (.isE 7 (Str.ofString "NoUse")) [a, b, c, d, e, f, g, some (.exn (Str.ofString "NoPlace") [x]), h]) μ Q X = Q (.bl false) μ := by
  rw [show evE (Φ k) (.isE 7 (Str.ofString "NoUse")) [a, b, c, d, e, f, g, some (.exn (Str.ofString "NoPlace") [x]), h] = M.ret (.bl false) by with_unfolding_all rfl, wp_ret]
theorem w_isB1 : Wp (evE (Φ k) (.isE 7 (Str.ofString "WayError")) [a, b, c, d, e, f, g, some (.exn (Str.ofString "BadRule") [x]), h]) μ Q X = Q (.bl true) μ := by
  rw [show evE (Φ k) (.isE 7 (Str.ofString "WayError")) [a, b, c, d, e, f, g, some (.exn (Str.ofString "BadRule") [x]), h] = M.ret (.bl true) by with_unfolding_all rfl, wp_ret]
end
/-! what is shown ahead and behind -/
structure Rp (rd : D) (q : PyData) : Prop where
  fz : rd.nb = true ∧ rd.fz = rd
  tp : rd.toP = some q
  bd : Bd 6097 q
  dp : q.depth ≤ 10
theorem rpN : Rp .non .none := ⟨⟨rfl, rfl⟩, rfl, ⟨by decide +kernel, by decide +kernel, by decide +kernel, by decide +kernel⟩, by decide +kernel⟩
theorem rpU {r : RU} (h : PU r) : Rp (eU r) (pU r) := ⟨frzU r, codU.toP r, h.bd, by have := codU.dep r; omega⟩
def pC (l : FL) (rs : List RU) (q : PyData) : PyData := .list [pF l, pZ rs, q]
theorem bdC {l : FL} {rs : List RU} {q : PyData} (h1 : FD l) (h2 : PZ rs) (h3 : Bd 6097 q) : Bd 433300 (pC l rs q) := by
  have a := h1.bd; have b := h2.bd; have c := h3
  refine ⟨?_, ?_, ?_, ?_⟩
  · simp [pC, PyData.showable, PyData.showableAll, a.sh, b.sh, c.sh]
  · simp [pC, PyData.hasDict, PyData.hasDictAll, a.nd, b.nd, c.nd]
  · simp [pC, PyData.leavesShort, PyData.leavesShortAll, a.lf, b.lf, c.lf]
  · have := a.wt; have := b.wt; have := c.wt
    simp only [pC, PyData.weight, PyData.weightAll]; omega
theorem dep_C (l : FL) (rs : List RU) {q : PyData} (h : q.depth ≤ 10) : (pC l rs q).depth ≤ 60 := by
  have h1 := codZ.dep rs
  have h2 : (pF l).depth ≤ 2 := by
    have := depL_map (f := pF2) (m := 1) (fun a => by simp [pF2, PyData.depth, PyData.depthAll]) l
    simp only [pF, pL, PyData.depth]; omega
  simp only [pC, PyData.depth, PyData.depthAll]
  omega
theorem toP_C (l : FL) (rs : List RU) {rd : D} {q : PyData} (h : rd.toP = some q) : (D.lst false [eF l, eZ rs, rd]).toP = some (pC l rs q) := by
  have h1 : (eF l).toP = some (pF l) := by
    have := toPL_map (e := fl2) (f := pF2) (fun _ => rfl) l
    simp only [eF, eL, D.toP, this]; rfl
  simp only [D.toP, D.toPL, h1, codZ.toP, h]; rfl
theorem w_reprC {l : FL} {rs : List RU} {rd : D} {q : PyData} (h1 : FD l) (h2 : PZ rs) (h3 : Rp rd q) : Wp (bltD .repr (.lst false [eF l, eZ rs, rd])) μ Q X = Q (.str (pC l rs q).shown) μ := by
  have hb := bdC h1 h2 h3.bd
  have hg : ((pC l rs q).showable && !(pC l rs q).hasDict && decide ((pC l rs q).depth ≤ 60) && decide ((pC l rs q).shown.length ≤ LINE)) = true := by
    have h4 := hb.len
    simp only [hb.sh, hb.nd, decide_eq_true (dep_C l rs h3.dp), Bool.not_false, Bool.and_self, Bool.true_and]
    refine decide_eq_true ?_
    rw [line_eq]; omega
  show Wp (reprP (D.lst false [eF l, eZ rs, rd]).toP) μ Q X = _
  rw [toP_C l rs h3.tp]
  show Wp (guard' ((pC l rs q).showable && !(pC l rs q).hasDict && decide ((pC l rs q).depth ≤ 60) && decide ((pC l rs q).shown.length ≤ LINE)) (M.ret (.str (pC l rs q).shown))) μ Q X = _
  rw [hg, wp_guard, wp_ret]; simp
end
/-! QN -/
section
variable {μ : Sto} {X : Str → List D → Sto → Prop}
theorem s_law_asked {k w : Nat} {l : FL} {rs : List RU} {p : Int} {r : RU} {rd : D} {q : PyData} (hk : 12 ≤ k) (hl : FD l) (hr : PZ rs) (hw : w ≤ 2) (hq : Rp rd q) (h0 : w = 0 → rd = eU r ∧ smU r) :
    Wp (run pp k (Str.ofString "_law_asked") [eF l, eZ rs, .int p, rd, .int (w : Nat)]) μ (fun d μ' => μ' = μ ∧ d = askD p (outF (wsF l) rs p r w)) X := by
  obtain ⟨k, rfl⟩ : ∃ j, k = j + 12 := ⟨k - 12, by omega⟩
  have f1 := frzF l
  have f2 := frzZ rs
  have f3 := hq.fz
  have hr1 : rs.length ≤ 100 := by have := hr.1; omega
  have hr2 : ∀ r ∈ rs, smU r := fun r h => (hr.2 r h).sm
  rw [e__law_asked]
  simp_arith [P85.f__law_asked, f1.1, f1.2, f2.1, f2.2, f3.1, f3.2, w_reprC hl hr hq, w_try2, allNb]
  obtain rfl | rfl | rfl : w = 0 ∨ w = 1 ∨ w = 2 := by omega
  · obtain ⟨rfl, hu⟩ := h0 rfl
    rw [show decide (((0 : Nat) : Int) = 0) = true from rfl]
    simp_arith [f1.1, f1.2, f2.1, f2.2, f3.1, f3.2]
    refine s_with_rule (r := r) (by omega) hr1 hr2 hu ?_ ?_ ?_ ?_
    · intro h
      rw [w_caughtT sub_pp]
      simp_arith [w_isP1, w_isP2, w_isP3, f1.1, f1.2, f2.1, f2.2, f3.1, f3.2, w_reprC hl hr hq, w_eqSS, w_fldP]
      simp_arith [atI_1, w_outR]
      rw [out_no (fun z => h ⟨z.1, by have := z.2; simp only [lim] at this; omega⟩)]
      rfl
    · intro i e hi hb
      subst e
      rw [w_caughtF sub_bp, w_caughtT sub_bb]
      simp_arith [w_isB1, f1.1, f1.2, f2.1, f2.2, f3.1, f3.2, w_reprC hl hr hq, w_eqSS, w_fldB]
      simp_arith [atI_1, w_outR]
      rw [out_0b hi hb]
      rfl
    · intro i e hi hb hm
      subst e
      rw [w_caughtF sub_bp, w_caughtT sub_bb]
      simp_arith [w_isB1, f1.1, f1.2, f2.1, f2.2, f3.1, f3.2, w_reprC hl hr hq, w_eqSS, w_fldB]
      simp_arith [atI_1, w_outR]
      rw [out_0m hi hb (by omega)]
      rfl
    · intro i e hi hb hm
      subst e
      simp_arith [f1.1, f1.2, f2.1, f2.2, f3.1, f3.2, w_retPk, w_pkG, w_reprC hl hr hq, w_eqSS, w_pkF1]
      rw [out_0 hi hb (by omega)]
      exact ⟨rfl, rfl⟩
  · rw [show decide (((1 : Nat) : Int) = 0) = false from rfl]
    simp_arith []
    rw [show decide (((1 : Nat) : Int) = 1) = true from rfl]
    simp_arith [f1.1, f1.2, f2.1, f2.2, f3.1, f3.2]
    refine s_without_rule (by omega) hr1 hr2 ?_ ?_
    · intro h
      rw [w_caughtT sub_pp]
      simp_arith [w_isP1, w_isP2, w_isP3, f1.1, f1.2, f2.1, f2.2, f3.1, f3.2, w_reprC hl hr hq, w_eqSS, w_fldP]
      simp_arith [atI_1, w_outR]
      rw [out_no (fun z => h ⟨z.1, by have := z.2; simp only [lim] at this; omega⟩)]
      rfl
    · intro i e hi
      subst e
      simp_arith [f1.1, f1.2, f2.1, f2.2, f3.1, f3.2, w_retPk, w_pkG, w_reprC hl hr hq, w_eqSS, w_pkF1]
      rw [out_1 hi]
      exact ⟨rfl, rfl⟩
  · rw [show decide (((2 : Nat) : Int) = 0) = false from rfl]
    simp_arith []
    rw [show decide (((2 : Nat) : Int) = 1) = false from rfl]
    simp_arith [f1.1, f1.2, f2.1, f2.2, f3.1, f3.2]
    refine s_exchanged_rules (by omega) hr1 hr2 ?_ ?_
    · intro h
      rw [w_caughtT sub_pp]
      simp_arith [w_isP1, w_isP2, w_isP3, f1.1, f1.2, f2.1, f2.2, f3.1, f3.2, w_reprC hl hr hq, w_eqSS, w_fldP]
      simp_arith [atI_1, w_outR]
      rw [out_no (fun z => h ⟨z.1, by have := z.2; simp only [lim] at this; omega⟩)]
      rfl
    · intro i e hi
      subst e
      simp_arith [f1.1, f1.2, f2.1, f2.2, f3.1, f3.2, w_retPk, w_pkG, w_reprC hl hr hq, w_eqSS, w_pkF1]
      rw [out_2 hi]
      exact ⟨rfl, rfl⟩
end
/-! QO -/
theorem ins_mem {rs : List RU} {i : Nat} {r : RU} : ∀ z ∈ insF rs i r, z ∈ rs ∨ z = r := by
  intro z hz
  simp only [insF, List.mem_append, List.mem_cons, List.not_mem_nil, or_false] at hz
  rcases hz with (hz | hz) | hz
  · exact .inl (List.mem_of_mem_take hz)
  · exact .inr hz
  · exact .inl (List.mem_of_mem_drop hz)
theorem del_mem {rs : List RU} {i : Nat} : ∀ z ∈ delF rs i, z ∈ rs := by
  intro z hz
  rcases List.mem_append.1 (show z ∈ rs.take i ++ rs.drop (i + 1) from hz) with hz | hz
  · exact List.mem_of_mem_take hz
  · exact List.mem_of_mem_drop hz
theorem out_rules {ws : List Nat} {rs : List RU} {p : Int} {r : RU} {w : Nat} {zs : List RU} (hw : w ≤ 2) (h : outF ws rs p r w = .rules zs) : zs.length ≤ rs.length + 1 ∧ ∀ z ∈ zs, z ∈ rs ∨ (w = 0 ∧ okU ws r = true ∧ z = r) := by
  unfold outF at h
  by_cases c : 0 ≤ p ∧ p < lim w rs.length
  · rw [if_pos c] at h
    obtain ⟨c1, c2⟩ := c
    obtain rfl | rfl | rfl : w = 0 ∨ w = 1 ∨ w = 2 := by omega
    · rw [if_pos rfl] at h
      simp only [lim] at c2
      split at h
      · rename_i hb
        split at h
        · cases h
        · cases h
          exact ⟨by simp [insF]; omega, fun z hz => (ins_mem z hz).imp id fun e => ⟨rfl, hb, e⟩⟩
      · cases h
    · simp only [lim] at c2
      rw [if_neg (by omega), if_pos rfl] at h
      cases h
      exact ⟨by simp [delF]; omega, fun z hz => .inl (del_mem z hz)⟩
    · simp only [lim] at c2
      rw [if_neg (by omega), if_neg (by omega)] at h
      cases h
      have hi : p.toNat + 1 < rs.length := by omega
      exact ⟨by rw [ex_len hi]; omega, fun z hz => .inl (ex_mem hi (P := fun z => z ∈ rs) (fun z h => h) z hz)⟩
  · rw [if_neg c] at h
    cases h
theorem smP (q : Pr) : Sm 1 (eP q) := .tup 0 _ (by simp) (by
  intro d hd
  simp only [List.mem_cons, List.not_mem_nil, or_false] at hd
  rcases hd with rfl | rfl
  · exact .int 0 _
  · exact .int 0 _)
theorem smL {α : Type} {e : α → D} {j : Nat} {as : List α} (h : as.length ≤ 100) (he : ∀ a ∈ as, Sm j (e a)) : Sm (j + 1) (.lst false (as.map e)) := .lst j _ (by simpa using h) (by
  intro d hd
  obtain ⟨a, ha, rfl⟩ := List.mem_map.1 hd
  exact he a ha)
theorem smW {p : PR} (h : p.length ≤ 100) : Sm 2 (eW p) := by rw [u_W]; exact smL h fun q _ => smP q
theorem smA {a : List PR} (h : a.length ≤ 100) (ha : ∀ p ∈ a, p.length ≤ 100) : Sm 3 (eA a) := by rw [u_A]; exact smL h fun q hq => smW (ha q hq)
theorem smUU {r : RU} (h : smU r) : Sm 4 (eU r) := by
  rw [u_U]
  refine .tup 3 _ (by simp) ?_
  intro d hd
  simp only [List.mem_cons, List.not_mem_nil, or_false] at hd
  rcases hd with rfl | rfl
  · exact Sm.mono _ _ (smW h.1) _ (by omega)
  · exact smA h.2.1 h.2.2
theorem smZ {rs : List RU} (h : rs.length ≤ 100) (hs : ∀ r ∈ rs, smU r) : Sm 5 (eZ rs) := by rw [u_Z]; exact smL h fun q hq => smUU (hs q hq)
theorem sm2 {x : Str} {d : D} {j : Nat} (hx : PyData.strOk x = true) (hd : Sm j d) : Sm (j + 1) (.tup [.str x, d]) := .tup j _ (by simp) (by
  intro e he
  simp only [List.mem_cons, List.not_mem_nil, or_false] at he
  rcases he with rfl | rfl
  · exact .str j _ hx
  · exact hd)
theorem due_sm {p : Int} {o : Out} (h : ∀ zs, o = .rules zs → zs.length ≤ 100 ∧ ∀ z ∈ zs, smU z) : Sm 6 (dueD p o) := by
  cases o with
  | place => exact sm2 (by decide +kernel) (.int 5 _)
  | bad j => exact sm2 (by decide +kernel) (.int 5 _)
  | rules zs => exact sm2 (by decide +kernel) (smZ (h zs rfl).1 (h zs rfl).2)
theorem nrL_map {α : Type} {e : α → D} (h : ∀ a, (e a).nr = true) (as : List α) : D.nrL (as.map e) = true := by
  rw [nrL_eq]; simp [h]
theorem nr_eW (p : PR) : (eW p).nr = true := by rw [u_W]; exact nrL_map (fun q => rfl) p
theorem nr_oW (p : PR) : (oW p).nr = true := nrL_map (e := eP) (fun q => rfl) p
theorem nr_eA (p : List PR) : (eA p).nr = true := by rw [u_A]; exact nrL_map nr_eW p
theorem nr_oA (p : List PR) : (oA p).nr = true := nrL_map nr_oW p
theorem nr_eU (r : RU) : (eU r).nr = true := by simp [u_U, D.nr, D.nrL, nr_eW, nr_eA]
theorem nr_oU (r : RU) : (oU r).nr = true := by simp [oU, D.nr, D.nrL, nr_oW, nr_oA]
theorem nr_eZ (r : List RU) : (eZ r).nr = true := by rw [u_Z]; exact nrL_map nr_eU r
theorem nr_oZ (r : List RU) : (oZ r).nr = true := nrL_map nr_oU r
theorem nr_due (p : Int) (o : Out) : (dueD p o).nr = true := by cases o <;> simp [dueD, D.nr, D.nrL, nr_eZ]
theorem nr_ask (p : Int) (o : Out) : (askD p o).nr = true := by cases o <;> simp [askD, D.nr, D.nrL, nr_oZ]
section
variable {μ : Sto} {X : Str → List D → Sto → Prop} {Ψ : Cfg} {ρ : Env}
def ruG (c : Int) (b : Bool) (ρ' : Env) : Option (Option D) → M Fl
  | some (some d) => guard' (ruinD c d && b) (M.ret (.nx ρ'))
  | _ => M.bad
theorem w_ruin {Q : Fl → Sto → Prop} {i m a : Nat} {c : Int} : Wp (exS Ψ (.ruin i c m a) ρ) μ Q X = Wp (ruG c (decide (i ≠ m) && decide (i ≠ a) && decide (m ≠ a) && decide (m < ρ.length) && decide (a < ρ.length)) (((ρ.set i none).set m none).set a none) ρ[i]?) μ Q X := by
  unfold ruG
  simp only [exS]
  cases ρ[i]? with
  | none => rfl
  | some o =>
    cases o with
    | none => rfl
    | some d => simp only [Bool.and_assoc]
theorem w_ruG {Q : Fl → Sto → Prop} {c : Int} {b : Bool} {ρ' : Env} {d : D} : Wp (ruG c b ρ' (some (some d))) μ Q X = ((ruinD c d && b) = true ∧ Q (.nx ρ') μ) := by
  simp only [ruG, wp_guard, wp_ret]
def atG (c : Int) : Option (Option D) → M D
  | some (some (.tup ds)) => match L2.atI ds c with
      | some d => guard' d.flat (M.ret d)
      | none => M.bad
  | _ => M.bad
theorem w_at0 {Q : D → Sto → Prop} {i : Nat} {c : Int} : Wp (evE Ψ (.at0 i c) ρ) μ Q X = Wp (atG c ρ[i]?) μ Q X := by with_unfolding_all rfl
theorem o_at0 {Q : D → Sto → Prop} {i : Nat} {c : Int} : Wp (Op Ψ (.at0 i c) ρ) μ Q X = Wp (evE Ψ (.at0 i c) ρ) μ (fun d μ1 => Q d.fz μ1) X := w_op rfl
theorem w_atG {Q : D → Sto → Prop} {x : Str} {ds : List D} : Wp (atG 0 (some (some (.tup (.str x :: ds))))) μ Q X = Q (.str x) μ := by
  simp only [atG, atI_0, wp_guard, wp_ret, D.flat, true_and]
end
theorem ruin_ok {x : Str} {zs : List RU} (h : zs.length ≤ 100) (hs : ∀ z ∈ zs, smU z) : ruinD 1 (.tup [.str x, oZ zs]) = true := by
  simp only [ruinD, atI_1, oZ, List.length_map, Bool.and_eq_true, decide_eq_true_eq]
  refine ⟨by rw [line_eq]; omega, ?_⟩
  rw [List.all_eq_true]
  intro d hd
  obtain ⟨r, hr, rfl⟩ := List.mem_map.1 hd
  have := hs r hr
  simp only [oU, oW, oA, Vf.okPr, List.length_map, Bool.and_eq_true, decide_eq_true_eq]
  exact ⟨by rw [line_eq]; have := this.1; omega, by rw [line_eq]; have := this.2.1; omega⟩
section
variable {μ : Sto} {X : Str → List D → Sto → Prop}
theorem w_neSS {x y : Str} {Q : D → Sto → Prop} (hx : PyData.strOk x = true) (hy : PyData.strOk y = true) : Wp (cmpD .eq (.str x) (.str y)) μ Q X = Q (.bl (decide (x = y))) μ := by
  have h1 : D.eqD (.str x) (.str y) = some (decide (x = y)) := by
    simp only [D.eqD, D.toP]
    split
    · rw [Option.some.injEq]
      by_cases e : x = y <;> simp [PyData.eqv, e]
    · simp [eqS]
  simp only [cmpD, h1, Option.map, wp_some]
theorem s_deed {k w : Nat} {l : FL} {rs : List RU} {p : Int} {r : RU} {rd : D} {q : PyData} (hk : 14 ≤ k) (hl : FD l) (hr : PZ rs) (hw : w ≤ 2) (hq : Rp rd q) (h0 : w = 0 → rd = eU r ∧ smU r) :
    Wp (run pp k (Str.ofString "_law_deed_right") [eF l, eZ rs, .int p, rd, .int (w : Nat)]) μ (fun d μ' => μ' = μ ∧ d = .bl true) X := by
  obtain ⟨k, rfl⟩ : ∃ j, k = j + 14 := ⟨k - 14, by omega⟩
  have f1 := frzF l
  have f2 := frzZ rs
  have f3 := hq.fz
  have hr1 : rs.length ≤ 100 := by have := hr.1; omega
  have hr2 : ∀ r ∈ rs, smU r := fun r h => (hr.2 r h).sm
  have hzs : ∀ zs, outF (wsF l) rs p r w = .rules zs → zs.length ≤ 100 ∧ ∀ z ∈ zs, smU z := fun zs e => by
    obtain ⟨h1, h2⟩ := out_rules hw e
    refine ⟨by have := hr.1; omega, fun z hz => ?_⟩
    rcases h2 z hz with h | ⟨e0, _, rfl⟩
    · exact hr2 z h
    · exact (h0 e0).2
  have hsm : Sm 6 (dueD p (outF (wsF l) rs p r w)) := due_sm hzs
  have fd := Sm.fz 6 _ hsm
  rw [e__law_deed_right]
  simp_arith [P85.f__law_deed_right, f1.1, f1.2, f2.1, f2.2, f3.1, f3.2]
  refine (s_law_due (r := r) (by omega) hr1 hw f3 h0).mono ?_
  rintro d μ1 ⟨hμ, hd⟩
  subst hμ
  simp_arith [hd, f1.1, f1.2, f2.1, f2.2, f3.1, f3.2]
  refine (s_law_copied (by omega) hr1 hr2).mono ?_
  rintro d2 μ2 ⟨hμ, hd2⟩
  subst hμ
  simp_arith [hd2]
  refine ⟨by omega, ?_⟩
  have hask : ∀ {k μ X}, 12 ≤ k → _ := fun {k μ X} hk => s_law_asked (k := k) (μ := μ) (X := X) (p := p) hk hl hr hw hq h0
  have fa := askD_fz p (outF (wsF l) rs p r w)
  have na := nr_ask p (outF (wsF l) rs p r w)
  have nd := nr_due p (outF (wsF l) rs p r w)
  refine wp_for (fun _ _ => False) _ (fun i ρ μ' => μ' = μ2 ∧ ∃ r7 r8 r9 r10, ρ = [some (eF l), some (eZ rs), some (.int p), some rd, some (.int (w : Nat)), some (dueD p (outF (wsF l) rs p r w)), some (eZ rs), r7, r8, r9, r10]) _ _ ⟨rfl, none, none, none, none, rfl⟩ ?_ ?_ (fun _ _ h => h.elim)
  · rintro i hi _ μ3 ⟨hμ, r7, r8, r9, r10, rfl⟩
    subst hμ
    simp only [List.getElem_map, List.getElem_range]
    simp_arith [f1.1, f1.2, f2.1, f2.2, f3.1, f3.2]
    refine (hask (by omega)).mono ?_
    rintro d3 μ4 ⟨hμ, hd3⟩
    subst hμ; subst hd3
    have hsame := (s_law_same 6 _ hsm (k + 13) [] nX (by omega)).get
    obtain ⟨rd', rμ, hrun, _, rfl⟩ := hsame
    simp_arith [o_callB, w_callB, fa, fd.2]
    refine (wp_ok (a := D.bl true) (μ' := μ4) (by
      simp only [fnΦ, hrun, D.flat, D.nrL, na, nd, Bool.and_self, if_true])).mpr ?_
    simp_arith [f2.1, f2.2, w_neZ, o_at0, w_at0]
    cases ho : outF (wsF l) rs p r w with
    | place =>
      simp only [askD]
      simp_arith [w_atG, w_neSS (x := Str.ofString "place") (y := Str.ofString "rules") (by decide +kernel) (by decide +kernel)]
      rw [show decide (Str.ofString "place" = Str.ofString "rules") = false by decide +kernel]
      simp_arith []
      exact ⟨_, _, _, _, rfl⟩
    | bad j =>
      simp only [askD]
      simp_arith [w_atG, w_neSS (x := Str.ofString "bad") (y := Str.ofString "rules") (by decide +kernel) (by decide +kernel)]
      rw [show decide (Str.ofString "bad" = Str.ofString "rules") = false by decide +kernel]
      simp_arith []
      exact ⟨_, _, _, _, rfl⟩
    | rules zs =>
      have hru := ruin_ok (x := Str.ofString "rules") (hzs zs ho).1 (hzs zs ho).2
      simp only [askD]
      simp_arith [w_atG, w_eqSS, w_ruin, w_ruG, hru]
      refine ⟨by decide, f2.1, f2.1, ?_⟩
      rw [f2.2]
      simp_arith [w_neZ]
      exact ⟨_, _, _, _, rfl⟩
  · rintro _ μ3 ⟨hμ, r7, r8, r9, r10, rfl⟩
    subst hμ
    simp_arith []
end
/-! QP -/
def badR (n : Int) : List RU := [([(n, 0)], []), ([(0, 9)], [[]]), ([(0, 0), (0, 1)], []), ([], [[], []]), ([], [[(0, 0), (0, 0)]]), ([], [[(0, 1)], [(0, 0)]]), ([], [[(n, 0)]]), ([], [[(0, -1)]]), ([(0, -1)], [])]
theorem pq_sm {a b : Int} (h1 : a.natAbs ≤ 100) (h2 : b.natAbs ≤ 100) : PQ (a, b) := ⟨Nat.le_trans h1 (by decide), Nat.le_trans h2 (by decide)⟩
theorem badR_pu {n : Int} (h : n.natAbs ≤ 100) : ∀ r ∈ badR n, PU r := by
  have p0 : PQ (n, 0) := pq_sm h (by decide)
  have p1 : PQ (0, 9) := pq_sm (by decide) (by decide)
  have p2 : PQ (0, 0) := pq_sm (by decide) (by decide)
  have p3 : PQ (0, 1) := pq_sm (by decide) (by decide)
  have p4 : PQ (0, -1) := pq_sm (by decide) (by decide)
  have w : ∀ p : PR, p.length ≤ 7 → (∀ q ∈ p, PQ q) → PW p := fun p a b => ⟨a, b⟩
  have one : ∀ q : Pr, PQ q → PW [q] := fun q h => w _ (by simp) (PQ.cons h PQ.nil)
  have two : ∀ q q' : Pr, PQ q → PQ q' → PW [q, q'] := fun q q' h h' => w _ (by simp) (PQ.cons h (PQ.cons h' PQ.nil))
  have u : ∀ (p : PR) (as : List PR), PW p → as.length ≤ 5 → (∀ a ∈ as, PW a) → PU (p, as) := fun p as a b c => ⟨a, b, c⟩
  have a0 : ∀ a ∈ ([] : List PR), PW a := fun _ h => nomatch h
  have ac : ∀ {a : PR} {as : List PR}, PW a → (∀ a ∈ as, PW a) → ∀ b ∈ a :: as, PW b := fun {a as} h1 h2 b hb => (List.mem_cons.1 hb).elim (fun e => e ▸ h1) (h2 b)
  intro r hr
  simp only [badR, List.mem_cons, List.not_mem_nil, or_false] at hr
  rcases hr with rfl | rfl | rfl | rfl | rfl | rfl | rfl | rfl | rfl
  · exact u _ _ (one _ p0) (by simp) a0
  · exact u _ _ (one _ p1) (by simp) (ac pw_nil a0)
  · exact u _ _ (two _ _ p2 p3) (by simp) a0
  · exact u _ _ pw_nil (by simp) (ac pw_nil (ac pw_nil a0))
  · exact u _ _ pw_nil (by simp) (ac (two _ _ p2 p2) a0)
  · exact u _ _ pw_nil (by simp) (ac (one _ p3) (ac (one _ p2) a0))
  · exact u _ _ pw_nil (by simp) (ac (one _ p0) a0)
  · exact u _ _ pw_nil (by simp) (ac (one _ p4) a0)
  · exact u _ _ (one _ p4) (by simp) a0
section
variable {μ : Sto} {X : Str → List D → Sto → Prop}
theorem s_bad_rules {k : Nat} {l : FL} (hk : 1 ≤ k) : Wp (run pp k (Str.ofString "_law_bad_rules") [eF l]) μ (fun d μ' => μ' = μ ∧ d.fz = eZ (badR (l.length : Nat))) X := by
  obtain ⟨k, rfl⟩ : ∃ j, k = j + 1 := ⟨k - 1, by omega⟩
  have f1 := frzF l
  have hn : Wp (bltD .len (eF l)) μ (fun d μ' => d = .int (l.length : Nat) ∧ μ' = μ) X := by rw [u_F, w_len, List.length_map]; exact ⟨rfl, rfl⟩
  rw [e__law_bad_rules]
  simp_arith [P85.f__law_bad_rules, f1.1, f1.2]
  refine hn.mono ?_
  rintro d μ1 ⟨rfl, hμ⟩
  subst hμ
  simp_arith [show (9 ≤ LINE) = True by simp [LINE]]
  rfl
theorem w_isNb {b : Bool} {Q : D → Sto → Prop} : Wp (cmpD .isN (.bl b) .non) μ Q X = Q (.bl false) μ := by
  rw [show cmpD .isN (.bl b) .non = M.ret (.bl false) from rfl, wp_ret]
theorem w_eqbb {b : Bool} {Q : D → Sto → Prop} : Wp (cmpD .eq (.bl b) (.bl b)) μ Q X = Q (.bl true) μ := by
  rw [show cmpD .eq (.bl b) (.bl b) = M.ret (.bl true) by cases b <;> with_unfolding_all rfl, wp_ret]
/-- two like truths -/
theorem s_same_bl {k : Nat} {b : Bool} (hk : 1 ≤ k) : Wp (run pp k (Str.ofString "_law_same") [.bl b, .bl b]) μ (fun r μ' => μ' = μ ∧ r = .bl true) X := by
  obtain ⟨k, rfl⟩ : ∃ j, k = j + 1 := ⟨k - 1, by omega⟩
  rw [e__law_same]
  simp_arith [P85.f__law_same, hasTy, isTy, w_isNb, w_eqbb]
/-- three truths -/
theorem s_same_b3 {k : Nat} {a b c : Bool} (hk : 2 ≤ k) : Wp (run pp k (Str.ofString "_law_same") [.lst false [.bl a, .bl b, .bl c], .lst false [.bl a, .bl b, .bl c]]) μ (fun r μ' => μ' = μ ∧ r = .bl true) X := by
  obtain ⟨k, rfl⟩ : ∃ j, k = j + 1 := ⟨k - 1, by omega⟩
  rw [e__law_same]
  simp_arith [P85.f__law_same, hasTy, isTy, w_neff, w_nett]
  refine ⟨by omega, ?_⟩
  rw [show (((3 : Nat) : Int) - 0).toNat = 3 from rfl]
  refine wp_mapV (fun i : Nat => D.int (0 + (i : Nat))) (fun _ => .bl true) (List.range 3) [] _ (by simp [line_eq]) ?_ ?_
  · intro i hi
    have hi := List.mem_range.1 hi
    obtain rfl | rfl | rfl : i = 0 ∨ i = 1 ∨ i = 2 := by omega
    · simp_arith [show L2.atI [D.bl a, D.bl b, D.bl c] ((0 : Int) + ((0 : Nat) : Int)) = some (.bl a) from atL_0 _ _ _]
      refine (s_same_bl (by omega)).mono ?_
      rintro d μ1 ⟨hμ, hd⟩
      subst hμ; subst hd
      exact ⟨rfl, rfl⟩
    · simp_arith [show L2.atI [D.bl a, D.bl b, D.bl c] ((0 : Int) + ((1 : Nat) : Int)) = some (.bl b) from atL_1 _ _ _]
      refine (s_same_bl (by omega)).mono ?_
      rintro d μ1 ⟨hμ, hd⟩
      subst hμ; subst hd
      exact ⟨rfl, rfl⟩
    · simp_arith [show L2.atI [D.bl a, D.bl b, D.bl c] ((0 : Int) + ((2 : Nat) : Int)) = some (.bl c) from atL_2 _ _ _]
      refine (s_same_bl (by omega)).mono ?_
      rintro d μ1 ⟨hμ, hd⟩
      subst hμ; subst hd
      exact ⟨rfl, rfl⟩
  · (try simp_arith [])
    rw [show (List.range 3).map (fun _ => D.bl true) = [true, true, true].map D.bl from rfl, show D.fzL ([true, true, true].map D.bl) = [true, true, true].map D.bl from rfl, w_all]
    simp
/-! the deeds on drawn rules -/
theorem DZ.take1 {ws : List Nat} {rs : List RU} {r0 : RU} (h : ∀ r ∈ rs, DU ws r) (h0 : DU ws r0) : ∃ r, (rs ++ [r0]).head? = some r ∧ DU ws r := by
  cases rs with
  | nil => exact ⟨r0, rfl, h0⟩
  | cons x xs => exact ⟨x, rfl, h x List.mem_cons_self⟩
theorem duE {ws : List Nat} : DU ws ([], [[]]) := ⟨⟨by simp, fun _ h => nomatch h⟩, by simp, fun a h => by
  rw [List.mem_singleton.1 h]; exact ⟨by simp, fun _ h => nomatch h⟩⟩
theorem duN {ws : List Nat} : DU ws ([], []) := ⟨⟨by simp, fun _ h => nomatch h⟩, by simp, fun _ h => nomatch h⟩
theorem w_first {gs : List RU} {r0 g : RU} {b : Bool} {Q : D → Sto → Prop} (hg : (gs ++ [r0]).head? = some g) (hl : gs.length ≤ 1) : Wp (binD .add (eZ gs) (.lst b [eU r0])) μ (fun d μ1 => Wp (idxD d.fz (.int 0)) μ1 Q X) X = Q (eU g) μ := by
  have f := nbL_map frzU gs
  have f0 := frzU r0
  rw [u_Z]
  simp_arith [fzL_app, f.2, f0.2]
  cases gs with
  | nil =>
    cases hg
    simp_arith [List.map_nil, atI_0]
  | cons x xs =>
    cases hg
    simp_arith [List.map_cons, atI_0]
    refine propext ⟨fun h => h.2, fun h => ⟨?_, h⟩⟩
    simp only [List.length_cons] at hl
    rw [line_eq]; omega
theorem s_right {k : Nat} {l : FL} {rs : List RU} (hk : 16 ≤ k) (hl : FD l) (hf : FO μ) (hr : rs.length ≤ 6) (hs : ∀ r ∈ rs, DU (wsF l) r) : Wp (run pp k (Str.ofString "_law_right") [.ref 0, eF l, eZ rs]) μ (fun d μ' => FO μ' ∧ d = .bl true) X := by
  obtain ⟨k, rfl⟩ : ∃ j, k = j + 16 := ⟨k - 16, by omega⟩
  have f1 := frzF l
  have f2 := frzZ rs
  have hz : DZ (wsF l) rs := ⟨by omega, hs⟩
  have hp : PZ rs := hz.pz hl
  rw [e__law_right]
  simp_arith [P85.f__law_right, f1.1, f1.2, f2.1, f2.2]
  refine (s_law_rules (most := 1) (by omega) hl hf (by omega)).mono ?_
  rintro d μ1 ⟨hf1, gs, hd, hgl, hgs⟩
  obtain ⟨g, hg, hgu⟩ := DZ.take1 hgs (duE (ws := wsF l))
  have hgp : PU g := hgu.pu hl
  have e0 : D.tup [D.lst false [], D.lst false [D.lst false []]] = eU ([], [[]]) := rfl
  simp_arith [hd, e0, w_first hg hgl]
  refine (s_bad_rules (by omega)).mono ?_
  rintro d2 μ2 ⟨hμ, hd2⟩
  subst hμ
  have hll := hl.len
  have hbp := badR_pu (n := (l.length : Nat)) (by omega)
  have fg := frzU g
  have fb := frzZ (badR (l.length : Nat))
  have hbl : (badR (l.length : Nat)).length = 9 := rfl
  generalize badR (l.length : Nat) = bs at hd2 hbp fb hbl
  simp_arith [hd2, f2.1, f2.2, w_lenZ]
  refine ⟨by omega, ?_⟩
  refine wp_for (fun _ _ => False) _ (fun i ρ μ' => FO μ' ∧ ∃ r5, ρ = [some (.ref 0), some (eF l), some (eZ rs), some (eU g), some (eZ bs), r5, none, none]) _ _ ⟨hf1, none, by rw [fg.2]⟩ ?_ ?_ (fun _ _ h => h.elim)
  · rintro i hi _ μ3 ⟨hf3, r5, rfl⟩
    simp only [List.getElem_map, List.getElem_range]
    generalize (-2 + (i : Int)) = p
    simp_arith [f1.1, f1.2, f2.1, f2.2, fg.1, fg.2]
    refine (s_deed (w := 0) (r := g) (by omega) hl hp (by omega) (rpU hgp) (fun _ => ⟨rfl, hgp.sm⟩)).mono ?_
    rintro d3 μ4 ⟨hμ, hd3⟩
    subst hμ; subst hd3
    simp_arith [f1.1, f1.2, f2.1, f2.2, fg.1, fg.2]
    refine (s_deed (w := 1) (r := g) (by omega) hl hp (by omega) rpN (fun h => by omega)).mono ?_
    rintro d4 μ5 ⟨hμ, hd4⟩
    subst hμ; subst hd4
    simp_arith [f1.1, f1.2, f2.1, f2.2, fb.1, fb.2, w_lenZ, hbl]
    refine (s_draw (many := 9) (by omega) hf3 (by omega) (by omega)).mono ?_
    rintro _ μ6 ⟨hf6, j, rfl, hj⟩
    have g1 := eL_getD eU bs ([], []) j (by omega)
    have hbu := hbp _ (getD_mem (d := ([], [])) (show j < bs.length by omega))
    generalize bs.getD j ([], []) = b at g1 hbu
    have fbu := frzU b
    simp_arith [fb.1, fb.2, w_ixZ, g1, fbu.1, fbu.2]
    refine (s_deed (w := 0) (r := b) (by omega) hl hp (by omega) (rpU hbu) (fun _ => ⟨rfl, hbu.sm⟩)).mono ?_
    rintro d5 μ7 ⟨hμ, hd5⟩
    subst hμ; subst hd5
    simp_arith [f1.1, f1.2, f2.1, f2.2]
    refine (s_deed (w := 2) (r := g) (by omega) hl hp (by omega) rpN (fun h => by omega)).mono ?_
    rintro d6 μ8 ⟨hμ, hd6⟩
    subst hμ; subst hd6
    simp_arith []
    exact ⟨hf6, _, rfl⟩
  rintro _ μ3 ⟨hf3, r5, rfl⟩
  simp_arith [f2.1, f2.2, w_lenZ]
  refine ⟨by omega, ?_⟩
  refine wp_for (fun _ _ => False) _ (fun i ρ μ' => FO μ' ∧ ∃ r5 r6 r7, ρ = [some (.ref 0), some (eF l), some (eZ rs), some (eU g), some (eZ bs), r5, r6, r7]) _ _ ⟨hf3, _, _, _, rfl⟩ ?_ ?_ (fun _ _ h => h.elim)
  · rintro i hi _ μ4 ⟨hf4, r5, r6, r7, rfl⟩
    simp only [List.length_map, List.length_range] at hi
    have hi : i + 1 < rs.length := by omega
    simp only [List.getElem_map, List.getElem_range]
    rw [show ((0 : Int) + (i : Nat)) = ((i : Nat) : Int) by omega]
    have hcd : cutD (rs.map eU) (some ((i : Int) + 2)) none = (rs.drop (i + 2)).map eU := cut_drop eU rs (i + 2)
    have g1 := eL_getD eU rs ([], []) i (by omega)
    have g2 : L2.atI (rs.map eU) ((i : Int) + 1) = some (eU (rs.getD (i + 1) ([], []))) := eL_getD eU rs ([], []) (i + 1) hi
    have fa := frzU (rs.getD i ([], []))
    have fb' := frzU (rs.getD (i + 1) ([], []))
    have t1 := nbL_map frzU (rs.take i)
    have t2 := nbL_map frzU (rs.drop (i + 2))
    have hx : DZ (wsF l) (exF rs i) := ⟨by rw [ex_len hi]; omega, ex_mem hi hs⟩
    have fx := frzZ (exF rs i)
    have e1 : D.lst false ((rs.take i).map eU ++ [eU (rs.getD (i + 1) ([], [])), eU (rs.getD i ([], []))] ++ (rs.drop (i + 2)).map eU) = eZ (exF rs i) := by rw [u_Z, exF, List.map_append, List.map_append]; rfl
    have hmay : ∀ {k μ X}, 7 ≤ k → _ := fun {k μ X} hk => s_may_exchange (k := k) (μ := μ) (X := X) (i := i) hk hl hz hi
    simp_arith [f2.1, f2.2, w_slZ, w_ixZ, g1, g2, cut_take, hcd, t1.1, t1.2, t2.1, t2.2, fa.1, fa.2, fb'.1, fb'.2, fzL_app]
    refine ⟨by simp only [line_eq, List.length_take]; omega, by simp only [line_eq, List.length_take, List.length_drop]; omega, ?_⟩
    rw [e1]
    generalize exF rs i = es at hx fx hmay
    simp_arith [f1.1, f1.2, fx.1, fx.2]
    refine ⟨by simp only [nbL_app, t1.1, t2.1, D.nbL, fa.1, fb'.1, Bool.and_self], ?_⟩
    refine (s_law_rules_table (by omega) hl hx).mono ?_
    rintro d5 μ5 ⟨hμ, hd5⟩
    subst hμ; subst hd5
    (try simp_arith [f1.1, f1.2, f2.1, f2.2])
    refine (s_law_rules_table (by omega) hl hz).mono ?_
    rintro d5 μ5 ⟨hμ, hd5⟩
    subst hμ; subst hd5
    simp_arith [oT_fz, w_eqTT, f1.1, f1.2, f2.1, f2.2]
    refine (hmay (by omega)).mono ?_
    rintro d5 μ5 ⟨hμ, hd5⟩
    subst hμ; subst hd5
    simp_arith []
    refine (s_same_bl (by omega)).mono ?_
    rintro d6 μ6 ⟨hμ, hd6⟩
    subst hμ; subst hd6
    simp_arith []
    exact ⟨hf4, _, _, _, rfl⟩
  rintro _ μ4 ⟨hf4, r5, r6, r7, rfl⟩
  have b10 : (0 ≤ (20 : Int) ∧ (20 : Int) ≤ 1000000 ∧ -B64 < (10 : Int) ∧ (10 : Int) < B64) := by simp [B64]
  simp_arith [f1.1, f1.2, f2.1, f2.2, fg.1, fg.2, w_pow]
  refine ⟨b10, ?_⟩
  generalize (10 : Int) ^ (20 : Int).toNat = big
  refine (s_deed (w := 0) (r := g) (by omega) hl hp (by omega) (rpU hgp) (fun _ => ⟨rfl, hgp.sm⟩)).mono ?_
  rintro d3 μ5 ⟨hμ, hd3⟩
  subst hμ; subst hd3
  simp_arith [f1.1, f1.2, f2.1, f2.2, w_pow]
  refine ⟨b10, ?_⟩
  refine (s_deed (w := 1) (r := g) (by omega) hl hp (by omega) rpN (fun h => by omega)).mono ?_
  rintro d4 μ6 ⟨hμ, hd4⟩
  subst hμ; subst hd4
  simp_arith []
  exact hf4
end
/-! QR -/
def rowBody : List S := match P85.f__law_row_right.body with
  | _ :: .for_ _ _ b :: _ => b
  | _ => []
def rowA : S := rowBody.getD 3 .pass
def rowT : List S := rowBody.drop 4
theorem row_cut : P85.f__law_row_right.body = [.set true (.nm 3) (.call (Str.ofString "_law_copied") [(.var 2)]), .for_ (.nm 4) (.rng1 (.int 5)) ([.set true (.nm 5) (.call (Str.ofString "_law_draw") [(.var 0), (.int 3)]), .set true (.nm 6) (.idx (.bin .add (.call (Str.ofString "_law_rules") [(.var 0), (.var 1), (.int 0), (.int 1)]) (.lst [(.tup [(.lst []), (.lst [])])])) (.int 0)), .set true (.nm 7) (.call (Str.ofString "_law_due") [(.var 1), (.var 3), (.call (Str.ofString "_law_draw") [(.var 0), (.bin .add (.blt .len (.var 3)) (.int 1))]), (.var 6), (.var 5)])] ++ rowA :: rowT), .ret (.bl true)] := rfl
def nextF (hs : List RU) : Out → List RU
  | .rules zs => zs
  | _ => hs
theorem clash_nil {ws : List Nat} {a b : List RU} : clashK ws a b = [] ↔ tabF ws b = tabF ws a := by
  unfold clashK tabF
  rw [List.filter_eq_nil_iff]
  constructor
  · intro h
    refine List.map_congr_left fun p hp => ?_
    obtain ⟨i, hi, rfl⟩ := List.getElem_of_mem hp
    have := h i (List.mem_range.2 hi)
    have hg : (pcs ws).getD i [] = (pcs ws)[i] := by simp [hi]
    rw [hg] at this
    simp only [Bool.not_eq_true', decide_eq_false_iff_not, Decidable.not_not] at this
    exact this.symm
  · intro h i hi
    have hi := List.mem_range.1 hi
    have hg : (pcs ws).getD i [] = (pcs ws)[i] := by simp [hi]
    have := congrArg (fun t : Tb => t[i]?) h
    simp only [List.getElem?_map, List.getElem?_eq_getElem hi, Option.map_some, Option.some.injEq] at this
    rw [hg, this]
    simp
theorem metD_toP (rs : List RU) (p : Row) : ∃ q, (metD rs p).toP = some q ∧ q.canLay0 = true ∧ q.depth ≤ 1 := by
  unfold metD
  cases metL rs p with
  | nil => exact ⟨.none, rfl, by decide +kernel, by decide +kernel⟩
  | cons k ks => exact ⟨.int (k : Nat), rfl, rfl, by simp [PyData.depth]⟩
section
variable {μ : Sto} {X : Str → List D → Sto → Prop}
theorem w_eqSame {ws : List Nat} {a b : List RU} {Q : D → Sto → Prop} : Wp (cmpD .eq (clashD ws a b) (.tup [.str (Str.ofString "same")])) μ Q X = Q (.bl (decide (tabF ws b = tabF ws a))) μ := by
  have h : D.eqD (clashD ws a b) (.tup [.str (Str.ofString "same")]) = some (decide (tabF ws b = tabF ws a)) := by
    have hs : (D.tup [.str (Str.ofString "same")]).toP = some (.tuple [.str (Str.ofString "same")]) := rfl
    have h2 : SeqAt.shaped (.tuple [.str (Str.ofString "same")]) = true := by decide +kernel
    cases hK : clashK ws a b with
    | nil =>
      rw [decide_eq_true (clash_nil.1 hK)]
      simp only [clashD, hK, D.eqD, hs, h2, Bool.and_self, if_true, Option.some.injEq]
      decide +kernel
    | cons j js =>
      have hne : ¬ tabF ws b = tabF ws a := fun e => by
        have := clash_nil.2 e
        rw [hK] at this; cases this
      rw [decide_eq_false hne]
      obtain ⟨q1, e1, l1, d1⟩ := metD_toP a ((pcs ws).getD j [])
      obtain ⟨q2, e2, l2, d2⟩ := metD_toP b ((pcs ws).getD j [])
      have hx := codX.toP ((pcs ws).getD j [])
      have lx := codX.lay ((pcs ws).getD j [])
      have dx := codX.dep ((pcs ws).getD j [])
      generalize pX ((pcs ws).getD j []) = px at hx lx dx
      have h1 : (clashD ws a b).toP = some (.tuple [.str (Str.ofString "parcel"), px, q1, q2]) := by
        simp only [clashD, hK, D.toP, D.toPL, hx, e1, e2]; rfl
      have h3 : SeqAt.shaped (.tuple [.str (Str.ofString "parcel"), px, q1, q2]) = true := by
        have hp : (PyData.str (Str.ofString "parcel")).canLay0 = true := by decide +kernel
        have hp2 : PyData.strOk (Str.ofString "parcel") = true := by decide +kernel
        have hd : (PyData.str (Str.ofString "parcel")).depth ≤ 1 := by decide +kernel
        have : PyData.depth (.tuple [.str (Str.ofString "parcel"), px, q1, q2]) ≤ 64 := by
          simp only [PyData.depth, PyData.depthAll] at hd ⊢; omega
        simp only [SeqAt.shaped, PyData.canLay0, PyData.canLayAll0, hp2, lx, l1, l2, Bool.and_self, Bool.and_true, Bool.true_and, decide_eq_true_eq]
        exact this
      simp only [D.eqD, h1, hs, h2, h3, Bool.and_self, if_true, Option.some.injEq]
      simp [PyData.eqv, PyData.eqvAll]
  simp only [cmpD, h, Option.map, wp_some]
theorem w_neBB {a b : Bool} {Q : D → Sto → Prop} : Wp (cmpD .ne (.bl a) (.bl b)) μ Q X = Q (.bl (a != b)) μ := by
  have h : D.eqD (.bl a) (.bl b) = some (a == b) := by cases a <;> cases b <;> decide +kernel
  simp only [cmpD, h, Option.map, wp_some]
  rfl
theorem w_eqXL {a b : List Row} {Q : D → Sto → Prop} : Wp (cmpD .eq (.lst false (a.map eX)) (.lst false (b.map eX))) μ Q X = Q (.bl (decide (a = b))) μ := by
  have := (codL codX).eqD (by omega) a b
  simp only [cmpD, show D.eqD (.lst false (a.map eX)) (.lst false (b.map eX)) = some (decide (a = b)) from this, Option.map, wp_some]
theorem s_rowA {k : Nat} {l : FL} {rs hs : List RU} {p : Int} {o : Out} {r4 r5 r6 r8 r9 : Option D} : Wp (exS (Φ k) rowA [some (.ref 0), some (eF l), some (eZ rs), some (eZ hs), r4, r5, r6, some (dueD p o), r8, r9]) μ (fun fl μ' => μ' = μ ∧ fl = .nx [some (.ref 0), some (eF l), some (eZ rs), some (eZ (nextF hs o)), r4, r5, r6, some (dueD p o), r8, r9]) X := by
  cases o with
  | place =>
    simp only [rowA, rowBody, P85.f__law_row_right, List.getD_cons_succ, List.getD_cons_zero, dueD]
    simp_arith [atI_0, w_neSS (x := Str.ofString "place") (y := Str.ofString "rules") (by decide +kernel) (by decide +kernel)]
    rw [show decide (Str.ofString "place" = Str.ofString "rules") = false by decide +kernel]
    simp_arith []
    rfl
  | bad j =>
    simp only [rowA, rowBody, P85.f__law_row_right, List.getD_cons_succ, List.getD_cons_zero, dueD]
    simp_arith [atI_0, w_neSS (x := Str.ofString "bad") (y := Str.ofString "rules") (by decide +kernel) (by decide +kernel)]
    rw [show decide (Str.ofString "bad" = Str.ofString "rules") = false by decide +kernel]
    simp_arith []
    rfl
  | rules zs =>
    have f := frzZ zs
    simp only [rowA, rowBody, P85.f__law_row_right, List.getD_cons_succ, List.getD_cons_zero, dueD]
    simp_arith [atI_0, atI_1, w_eqSS, f.1, f.2]
    rfl
theorem s_rowT {k : Nat} {l : FL} {rs hs : List RU} {r4 r5 r6 r7 r8 r9 : Option D} (hk : 8 ≤ k) (hl : FD l) (hr : DZ (wsF l) rs) (hh : DZ (wsF l) hs) : Wp (exSs (Φ k) rowT [some (.ref 0), some (eF l), some (eZ rs), some (eZ hs), r4, r5, r6, r7, r8, r9]) μ (fun fl μ' => μ' = μ ∧ ∃ r8 r9, fl = .nx [some (.ref 0), some (eF l), some (eZ rs), some (eZ hs), r4, r5, r6, r7, r8, r9]) X := by
  have f0 := frzF l
  have f2 := frzZ rs
  have fh := frzZ hs
  have hpc := hl.pc0
  have hth : (tabF (wsF l) hs).length = (pcs (wsF l)).length := by simp [tabF]
  have htr : ∀ r ∈ tabF (wsF l) hs, r.length ≤ 100 := by
    intro r h
    obtain ⟨p, _, rfl⟩ := List.mem_map.1 h
    exact numsF_len hh
  have ft := frzT (tabF (wsF l) hs)
  have smt := smT (t := tabF (wsF l) hs) (by omega) htr
  have hsm := clash_sm hl rs hs
  have fc := Sm.fz 2 _ hsm
  have hpl := hl.plen
  simp only [rowT, rowBody, P85.f__law_row_right, List.drop_succ_cons, List.drop_zero]
  simp_arith [f0.1, f0.2, f2.1, f2.2, fh.1, fh.2]
  refine (s_law_rules_table (by omega) hl hh).mono ?_
  rintro d μ1 ⟨hμ, hd⟩
  subst hμ; subst hd
  simp_arith [oT_fz, f0.1, f0.2, fh.1, fh.2]
  refine (s_table_of_rules (by omega) hl hh).mono ?_
  rintro d μ1 ⟨hμ, hd⟩
  subst hμ; subst hd
  simp_arith [oT_fz, ft.1, ft.2]
  refine (s_law_same 2 _ smt _ _ _ (by omega)).mono ?_
  rintro d μ1 ⟨hμ, hd⟩
  subst hμ; subst hd
  simp_arith [f0.1, f0.2, f2.1, f2.2, fh.1, fh.2]
  refine (s_clash_told (by omega) hl hr hh).mono ?_
  rintro d μ1 ⟨hμ, hd⟩
  subst hμ; subst hd
  simp_arith [fc.1, fc.2, ft.1, ft.2, f0.1, f0.2, f2.1, f2.2]
  simp_arith [w_eqSame]
  refine (s_law_rules_table (by omega) hl hr).mono ?_
  rintro d μ1 ⟨hμ, hd⟩
  subst hμ; subst hd
  simp_arith [oT_fz, w_eqTT, w_neBB, bne_self_eq_false]
  cases hK : clashK (wsF l) rs hs with
  | nil =>
    have hD : clashD (wsF l) rs hs = .tup [.str (Str.ofString "same")] := by simp only [clashD, hK]
    rw [hD]
    simp_arith []
    rw [show decide (((0 + 1 : Nat) : Int) = 4) = false by decide]
    simp_arith []
    exact ⟨_, _, rfl⟩
  | cons j js =>
    have hD : clashD (wsF l) rs hs = .tup [.str (Str.ofString "parcel"), eX ((pcs (wsF l)).getD j []), metD rs ((pcs (wsF l)).getD j []), metD hs ((pcs (wsF l)).getD j [])] := by simp only [clashD, hK]
    have hj : j ∈ clashK (wsF l) rs hs := by rw [hK]; exact List.mem_cons_self
    have hj2 := List.mem_filter.1 hj
    have hjl := List.mem_range.1 hj2.1
    have hm := getD_mem (d := []) hjl
    have hne : ¬ doneF rs ((pcs (wsF l)).getD j []) = doneF hs ((pcs (wsF l)).getD j []) := fun e => by
      have h1 := done_nums hl hm hr
      have h2 := done_nums hl hm hh
      have h3 := hj2.2
      rw [← h1, ← h2, e] at h3
      simp at h3
    have hp := hpl _ hm
    rw [hD] at fc ⊢
    have m1 := metD_fz rs ((pcs (wsF l)).getD j [])
    have m2 := metD_fz hs ((pcs (wsF l)).getD j [])
    have f7 := frzX ((pcs (wsF l)).getD j [])
    generalize (pcs (wsF l)).getD j [] = p at hne hp m1 m2 f7 fc ⊢
    have fda := nbL_map frzX (doneF rs p)
    have fdb := nbL_map frzX (doneF hs p)
    simp_arith [f7.1, f7.2, m1.1, m1.2, m2.1, m2.2]
    rw [show decide (((4 : Nat) : Int) = 4) = true from rfl]
    simp_arith [f7.1, f7.2, m1.1, m1.2, m2.1, m2.2, f2.1, f2.2, fh.1, fh.2, atI_1]
    refine (s_law_done (by omega) hl hp hr).mono ?_
    rintro d μ1 ⟨hμ, hd⟩
    subst hμ; subst hd
    simp_arith [fda.1, fda.2, f7.1, f7.2, m1.1, m1.2, m2.1, m2.2, fh.1, fh.2, atI_1]
    refine (s_law_done (by omega) hl hp hh).mono ?_
    rintro d μ1 ⟨hμ, hd⟩
    subst hμ; subst hd
    simp_arith [fda.1, fda.2, fdb.1, fdb.2, w_eqXL]
    rw [decide_eq_false hne]
    simp_arith []
    exact ⟨_, _, rfl⟩
theorem s_row_right {k : Nat} {l : FL} {rs : List RU} (hk : 10 ≤ k) (hl : FD l) (hf : FO μ) (hr : rs.length ≤ 6) (hs : ∀ r ∈ rs, DU (wsF l) r) : Wp (run pp k (Str.ofString "_law_row_right") [.ref 0, eF l, eZ rs]) μ (fun d μ' => FO μ' ∧ d = .bl true) X := by
  obtain ⟨k, rfl⟩ : ∃ j, k = j + 10 := ⟨k - 10, by omega⟩
  have f0 := frzF l
  have f2 := frzZ rs
  have hz : DZ (wsF l) rs := ⟨by omega, hs⟩
  rw [e__law_row_right, row_cut]
  simp_arith [f0.1, f0.2, f2.1, f2.2]
  refine (s_law_copied (by omega) hz.sm.1 hz.sm.2).mono ?_
  rintro d μ1 ⟨hμ, hd⟩
  subst hμ
  simp_arith [hd]
  refine ⟨by omega, ?_⟩
  refine wp_for (fun _ _ => False) _ (fun i ρ μ' => FO μ' ∧ ∃ (hs : List RU) (r4 r5 r6 r7 r8 r9 : Option D), hs.length ≤ 6 + i ∧ (∀ r ∈ hs, DU (wsF l) r) ∧ ρ = [some (.ref 0), some (eF l), some (eZ rs), some (eZ hs), r4, r5, r6, r7, r8, r9]) _ _ ⟨hf, rs, none, none, none, none, none, none, by omega, hs, rfl⟩ ?_ ?_ (fun _ _ h => h.elim)
  · rintro i hi _ μ2 ⟨hf2, hs, r4, r5, r6, r7, r8, r9, hhl, hhs, rfl⟩
    simp only [List.length_map, List.length_range] at hi
    have hi : i < 5 := hi
    have fh := frzZ hs
    have hh : DZ (wsF l) hs := ⟨by omega, hhs⟩
    simp only [List.getElem_map, List.getElem_range]
    simp_arith []
    refine (s_draw (many := 3) (by omega) hf2 (by omega) (by omega)).mono ?_
    rintro _ μ3 ⟨hf3, w, rfl, hw⟩
    simp_arith [f0.1, f0.2]
    refine (s_law_rules (most := 1) (by omega) hl hf3 (by omega)).mono ?_
    rintro d2 μ4 ⟨hf4, gs, hd2, hgl, hgs⟩
    obtain ⟨g, hg, hgu⟩ := DZ.take1 hgs (duN (ws := wsF l))
    have e0 : D.tup [D.lst false [], D.lst false []] = eU ([], []) := rfl
    have fg := frzU g
    simp_arith [hd2, e0, w_first hg hgl, fg.1, fg.2, f0.1, f0.2, fh.1, fh.2, w_lenZ]
    rw [show ((hs.length : Int) + 1) = ((hs.length + 1 : Nat) : Int) by omega]
    refine (s_draw (many := hs.length + 1) (by omega) hf4 (by omega) (by omega)).mono ?_
    rintro _ μ5 ⟨hf5, j, rfl, hj⟩
    simp_arith [fg.1, fg.2]
    refine (s_law_due (w := w) (r := g) (by omega) (by omega) (by omega) fg (fun _ => ⟨rfl, (hgu.pu hl).sm⟩)).mono ?_
    rintro d3 μ6 ⟨hμ, hd3⟩
    subst hμ
    have hnext : (nextF hs (outF (wsF l) hs j g w)).length ≤ 6 + (i + 1) ∧ ∀ r ∈ nextF hs (outF (wsF l) hs j g w), DU (wsF l) r := by
      cases ho : outF (wsF l) hs j g w with
      | place => exact ⟨by simp only [nextF]; omega, hhs⟩
      | bad j => exact ⟨by simp only [nextF]; omega, hhs⟩
      | rules zs =>
        obtain ⟨h1, h2⟩ := out_rules (by omega) ho
        refine ⟨by simp only [nextF]; omega, fun z hz => ?_⟩
        rcases h2 z hz with h | ⟨_, _, rfl⟩
        · exact hhs z h
        · exact hgu
    simp_arith [hd3]
    refine s_rowA.mono ?_
    rintro fl μ7 ⟨hμ, rfl⟩
    subst hμ
    generalize nextF hs (outF (wsF l) hs j g w) = ns at hnext
    simp_arith []
    refine (s_rowT (by omega) hl hz ⟨by omega, hnext.2⟩).mono ?_
    rintro fl μ8 ⟨hμ, r8', r9', rfl⟩
    subst hμ
    simp_arith []
    exact ⟨hf5, _, _, _, _, _, _, _, hnext.1, hnext.2, rfl⟩
  · rintro _ μ2 ⟨hf2, hs, r4, r5, r6, r7, r8, r9, hhl, hhs, rfl⟩
    simp_arith []
    exact hf2
end
/-! QS -/
theorem wp_forE {α : Type} (e : α → D) {f : D → Env → M Fl} (R : D → Sto → Prop) {X : Str → List D → Sto → Prop} {Q : Fl → Sto → Prop} (os : List α) {xs : List D} (hx : xs = os.map e) (I : Nat → Env → Sto → Prop) (ρ : Env) (μ : Sto) (h0 : I 0 ρ μ)
    (h1 : ∀ i (h : i < os.length) ρ μ, I i ρ μ → Wp (f (e os[i]) ρ) μ (FlI (I (i + 1)) R) X) (h2 : ∀ ρ μ, I os.length ρ μ → Q (.nx ρ) μ) (h3 : ∀ d μ, R d μ → Q (.rt d) μ) : Wp (forL f xs ρ) μ Q X := by
  subst hx
  refine wp_for R _ I ρ μ h0 ?_ ?_ h3
  · intro i hi ρ μ h
    have hi' : i < os.length := by simpa using hi
    rw [List.getElem_map]
    exact h1 i hi' ρ μ h
  · intro ρ μ h
    rw [List.length_map] at h
    exact h2 ρ μ h
/-! the end of the law -/
def lA : FL := [(Str.ofString "a", 2), (Str.ofString "bo", 2)]
theorem fdA : FD lA := ⟨by decide +kernel, ⟨3, by decide⟩, by decide⟩
def rM : List RU := List.replicate 63 ([(0, 0)], [[]])
def rC : List RU := [([(0, 0)], [[(1, 1)]]), ([(0, 1)], []), ([], [[]])]
theorem dzC : DZ (wsF lA) rC := by
  unfold DZ DU DW DP; decide +kernel
theorem dzC1 : DZ (wsF lA) (([], [[]]) :: rC) := by
  unfold DZ DU DW DP; decide +kernel
theorem puM : PU ([(0, 0)], [[]]) := ⟨⟨by simp, PQ.cons (pq_sm (by decide) (by decide)) PQ.nil⟩, by simp, fun a h => by rw [List.mem_singleton.1 h]; exact pw_nil⟩
theorem pzM : PZ rM := by
  refine ⟨by simp [rM], fun r h => ?_⟩
  rw [List.eq_of_mem_replicate h]
  exact puM
theorem pzM1 : PZ (rM ++ rM.take 1) := pz_app pzM ⟨by simp [rM], fun r h => pzM.2 r (List.mem_of_mem_take h)⟩ (by simp [rM])
theorem manyM : (List.replicate (Int.toNat 63) [D.tup [.lst false [.tup [.int 0, .int 0]], .lst false [.lst false []]]]).flatten = rM.map eU := by
  rw [rM, List.map_replicate]
  simp [eU, eW, eA, eL, eP]
theorem pu1 : PU ([], []) := ⟨pw_nil, by simp, fun _ h => nomatch h⟩
theorem pu2 : PU ([(0, 9)], []) := ⟨⟨by simp, PQ.cons (pq_sm (by decide) (by decide)) PQ.nil⟩, by simp, fun _ h => nomatch h⟩
theorem ex1 : decide (tabF (wsF lA) (exF rC 0) = tabF (wsF lA) rC) = true := by decide +kernel
theorem ex2 : decide (tabF (wsF lA) (exF rC 1) = tabF (wsF lA) rC) = false := by decide +kernel
theorem ex3 : decide (tabF (wsF lA) (exF (([], [[]]) :: rC) 2) = tabF (wsF lA) (([], [[]]) :: rC)) = true := by decide +kernel
def lawB : List S := match P85.f_law.body with
  | _ :: .for_ _ _ b :: _ => b
  | _ => []
theorem law_cut : P85.f_law.body = .set true (.nm 1) (.call (Str.ofString "_law_feed") [(.var 0)]) :: .for_ (.nm 2) (.rng1 (.int 2)) lawB :: P85.f_law.body.drop 2 := rfl
theorem law_cut2 : P85.f_law.body.drop 2 = P85.f_law.body.getD 2 .pass :: P85.f_law.body.getD 3 .pass :: P85.f_law.body.drop 4 := rfl
section
variable {μ : Sto} {X : Str → List D → Sto → Prop}
/-- the law's last row -/
theorem s_tail4 {k : Nat} {a0 r2 r3 r4 r5 r6 r7 r8 : Option D} (hk : 18 ≤ k) (hf : FO μ) : Wp (exSs (Φ k) (P85.f_law.body.drop 4) [a0, some (.ref 0), r2, r3, r4, r5, r6, r7, r8]) μ (fun fl _ => fl = .rt (.bl true)) X := by
  have fA := frzF lA
  have fC := frzZ rC
  have fCl := nbL_map frzU rC
  have eA : D.lst false [D.tup [D.str (Str.ofString "a"), D.int 2], D.tup [D.str (Str.ofString "bo"), D.int 2]] = eF lA := rfl
  have eC : D.lst false [D.tup [.lst false [.tup [.int 0, .int 0]], .lst false [.lst false [.tup [.int 1, .int 1]]]], .tup [.lst false [.tup [.int 0, .int 1]], .lst false []], .tup [.lst false [], .lst false [.lst false []]]] = eZ rC := rfl
  have eE : D.tup [.lst false [], .lst false [.lst false []]] = eU ([], [[]]) := rfl
  have fE := frzU ([], [[]])
  simp_arith [P85.f_law, List.drop_succ_cons, List.drop_zero, eA, eC, fA.1, fA.2, fC.1, fC.2]
  refine (s_may_exchange (i := 0) (by omega) fdA dzC (by simp [rC])).mono ?_
  rintro d1 μ1 ⟨hμ, hd⟩
  subst hμ; subst hd
  simp_arith [ex1, fA.1, fA.2, fC.1, fC.2]
  refine (s_may_exchange (i := 1) (by omega) fdA dzC (by simp [rC])).mono ?_
  rintro d1 μ1 ⟨hμ, hd⟩
  subst hμ; subst hd
  simp_arith [ex2, eE, fA.1, fA.2]
  rw [show D.lst false [eU ([], [[]]), D.tup [D.lst false [D.tup [D.int 0, D.int 0]], D.lst false [D.lst false [D.tup [D.int 1, D.int 1]]]], D.tup [D.lst false [D.tup [D.int 0, D.int 1]], D.lst false []], eU ([], [[]])] = eZ (([], [[]]) :: rC) from rfl]
  refine (s_may_exchange (i := 2) (rs := ([], [[]]) :: rC) (by omega) fdA dzC1 (by simp [rC])).mono ?_
  rintro d1 μ2 ⟨hμ, hd⟩
  subst hμ; subst hd
  simp_arith [ex3, show (2 < LINE) = True by simp [LINE]]
  refine (s_same_b3 (by omega)).mono ?_
  rintro d1 μ3 ⟨hμ, hd⟩
  subst hμ; subst hd
  simp_arith [fA.1, fA.2, fC.1, fC.2]
  refine (s_right (by omega) fdA hf (by simp [rC]) dzC.2).mono ?_
  rintro d μ4 ⟨_, hd⟩
  rw [hd]
/-- many rules -/
theorem s_many {k : Nat} {l : FL} {a0 r2 r4 r5 r6 r7 r8 : Option D} (hk : 18 ≤ k) (hl : FD l) (hf : FO μ) : Wp (exSs (Φ k) (P85.f_law.body.drop 2) [a0, some (.ref 0), r2, some (eF l), r4, r5, r6, r7, r8]) μ (fun fl _ => fl = .rt (.bl true)) X := by
  have f0 := frzF l
  have fM := nbL_map frzU rM
  have fM1 := nbL_map frzU (rM ++ rM.take 1)
  have fMt := nbL_map frzU (rM.take 1)
  have hlM : rM.length = 63 := by simp [rM]
  have htail : ∀ {a0 r2 r3 r4 r5 r6 r7 r8 : Option D} {μ : Sto}, FO μ → Wp (exSs (Φ k) (P85.f_law.body.drop 4) [a0, some (.ref 0), r2, r3, r4, r5, r6, r7, r8]) μ (fun fl _ => fl = .rt (.bl true)) X := fun h => s_tail4 hk h
  rw [law_cut2]
  generalize P85.f_law.body.drop 4 = rest at htail
  simp_arith [P85.f_law, List.getD_cons_succ, List.getD_cons_zero, w_mulL, manyM, fM.1, fM.2]
  refine ⟨⟨by decide, by decide, by simp only [line_eq]; decide⟩, ?_⟩
  simp_arith [fM.1, fM.2, cut_t1, fMt.1, fMt.2, ← List.map_append, fM1.1, fM1.2]
  refine ⟨by simp only [line_eq, List.length_take]; omega, ?_⟩
  rw [← u_Z, ← u_Z]
  have fmz := frzZ rM
  refine wp_forE eZ (fun _ _ => False) [rM, rM ++ rM.take 1] rfl (fun i ρ μ' => μ' = μ ∧ ∃ r4 r6 r7, ρ = [a0, some (.ref 0), r2, some (eF l), r4, some (eZ rM), r6, r7, r8]) _ _ ⟨rfl, _, _, _, rfl⟩ ?_ ?_ (fun _ _ h => h.elim)
  · rintro i hi _ μ1 ⟨hμ, r4, r6, r7, rfl⟩
    subst hμ
    have hp : PZ ([rM, rM ++ rM.take 1][i]) := by
      have := List.getElem_mem hi
      generalize [rM, rM ++ rM.take 1][i] = z at this
      simp only [List.mem_cons, List.not_mem_nil, or_false] at this
      rcases this with rfl | rfl
      · exact pzM
      · exact pzM1
    generalize [rM, rM ++ rM.take 1][i] = rs at hp
    have fr := frzZ rs
    simp_arith []
    refine wp_forE D.int (fun _ _ => False) [0, 63, 64, 65] rfl (fun i ρ μ' => μ' = μ1 ∧ ∃ r6 r7, ρ = [a0, some (.ref 0), r2, some (eF l), some (eZ rs), some (eZ rM), r6, r7, r8]) _ _ ⟨rfl, _, _, rfl⟩ ?_ ?_ (fun _ _ h => h.elim)
    · rintro j hj _ μ2 ⟨hμ, r6, r7, rfl⟩
      subst hμ
      generalize ([0, 63, 64, 65] : List Int)[j] = p
      simp_arith []
      refine wp_forE eU (fun _ _ => False) [([], []), ([(0, 9)], [])] rfl (fun i ρ μ' => μ' = μ2 ∧ ∃ r7, ρ = [a0, some (.ref 0), r2, some (eF l), some (eZ rs), some (eZ rM), some (.int p), r7, r8]) _ _ ⟨rfl, _, rfl⟩ ?_ ?_ (fun _ _ h => h.elim)
      · rintro m hm _ μ3 ⟨hμ, r7, rfl⟩
        subst hμ
        have hu : PU ([([], []), ([(0, 9)], [])][m]) := by
          have := List.getElem_mem hm
          generalize ([([], []), ([(0, 9)], [])] : List RU)[m] = z at this
          simp only [List.mem_cons, List.not_mem_nil, or_false] at this
          rcases this with rfl | rfl
          · exact pu1
          · exact pu2
        generalize ([([], []), ([(0, 9)], [])] : List RU)[m] = u at hu
        have fu := frzU u
        simp_arith [f0.1, f0.2, fr.1, fr.2, fu.1, fu.2]
        refine (s_deed (w := 0) (r := u) (by omega) hl hp (by omega) (rpU hu) (fun _ => ⟨rfl, hu.sm⟩)).mono ?_
        rintro d μ4 ⟨hμ, hd⟩
        subst hμ; subst hd
        simp_arith []
        exact ⟨_, rfl⟩
      · rintro _ μ3 ⟨hμ, r7, rfl⟩
        subst hμ
        simp_arith []
        exact ⟨_, _, rfl⟩
    · rintro _ μ2 ⟨hμ, r6, r7, rfl⟩
      subst hμ
      simp_arith []
      exact ⟨_, _, _, rfl⟩
  · rintro _ μ1 ⟨hμ, r4, r6, r7, rfl⟩
    subst hμ
    simp_arith []
    exact htail hf
theorem s_law {k : Nat} (ns : List Int) (hl : ns.length ≤ 63) : Wp (run pp (k + 20) (Str.ofString "law") [.lst false (ns.map .int)]) [] (fun d _ => d = .bl true) nX := by
  rw [e_law, law_cut]
  have htail : ∀ {l : FL} {a0 r2 r4 r5 r6 r7 r8 : Option D} {μ : Sto}, FD l → FO μ → Wp (exSs (Φ (k + 19)) (P85.f_law.body.drop 2) [a0, some (.ref 0), r2, some (eF l), r4, r5, r6, r7, r8]) μ (fun fl _ => fl = .rt (.bl true)) nX := fun h h2 => s_many (by omega) h h2
  generalize P85.f_law.body.drop 2 = rest at htail
  simp_arith [nbL_ints, fzL_ints]
  refine (s_feed (by omega) ns (by omega)).mono ?_
  rintro _ μ1 ⟨rfl, hf1⟩
  simp_arith []
  refine ⟨by omega, ?_⟩
  refine wp_for (fun _ _ => False) _ (fun i ρ μ' => FO μ' ∧ ∃ r2 r3 r4 r5 r6 r7 r8 : Option D, (0 < i → ∃ l, FD l ∧ r3 = some (eF l)) ∧ ρ = [some (.lst false (ns.map .int)), some (.ref 0), r2, r3, r4, r5, r6, r7, r8]) _ _ ⟨hf1, none, none, none, none, none, none, none, by omega, rfl⟩ ?_ ?_ (fun _ _ h => h.elim)
  · rintro i hi _ μ2 ⟨hf2, r2, r3, r4, r5, r6, r7, r8, _, rfl⟩
    simp only [List.getElem_map, List.getElem_range]
    simp_arith [lawB, P85.f_law]
    refine (s_fields (by omega) hf2).mono ?_
    rintro d μ3 ⟨hf3, l, hd, hF⟩
    have f0 := frzF l
    (try simp_arith [hd, f0.1, f0.2])
    refine (s_law_rules (most := 5) (by omega) hF hf3 (by omega)).mono ?_
    rintro d μ4 ⟨hf4, rs, hd', hrl, hrs⟩
    have fr := frzZ rs
    (try simp_arith [hd', f0.1, f0.2, fr.1, fr.2])
    refine (s_right (by omega) hF hf4 (by omega) hrs).mono ?_
    rintro d μ5 ⟨hf5, hd''⟩
    subst hd''
    simp_arith [f0.1, f0.2, fr.1, fr.2]
    refine (s_row_right (by omega) hF hf5 (by omega) hrs).mono ?_
    rintro d μ6 ⟨hf6, hd''⟩
    subst hd''
    simp_arith []
    exact ⟨hf6, _, _, _, _, _, _, _, fun _ => ⟨l, hF, rfl⟩, rfl⟩
  rintro _ μ2 ⟨hf2, r2, r3, r4, r5, r6, r7, r8, h3, rfl⟩
  obtain ⟨l, hF, rfl⟩ := h3 (by simp)
  simp_arith []
  refine (htail hF hf2).mono ?_
  rintro _ μ3 rfl
  simp_arith []
theorem hrun (ns : List Int) (hl : ns.length ≤ 63) : ∃ μ, run pp 228 (Str.ofString "law") [.lst false (ns.map .int)] [] = .ok (.bl true) μ := by
  obtain ⟨a, μ, h, rfl⟩ := (s_law (k := 208) ns hl).get
  exact ⟨μ, h⟩
end

end Vf.Q

set_option maxHeartbeats 200000
set_option Elab.async false
set_option linter.all false
set_option maxRecDepth 100000
open PySem PySem.W PyProof.Rows
set_option maxHeartbeats 0 in
theorem PySem.Challenge.cw_parcelways_k85_whole_rules_put_in_and_ou_holds : PySem.Challenge.rw_parcelways_k85_whole_rules_put_in_and_ou.Holds := by
  w_on; o_law; k_head; (case hw => w_witness2)
  k_fill
  refine Vf.walkG (l := PySem.Challenge.rw_parcelways_k85_whole_rules_put_in_and_ou) (n := 63) (k := 230) (x := "script") (sp := fun w => Vf.spLaw _ 63) rfl (by decide) rfl ⟨rfl, by decide, by decide⟩ (fun w h Y => PySem.W.kIn_of Y) ?F (fun _ _ a ns hl _ hS => ⟨a, ns, rfl, hl, hS, fun _ => rfl⟩) (fun _ _ _ _ _ h => Vf.nox_end h)
  case F =>
    intro w mg fa h KX G hmg
    have d_all_parcels := Vf.mkDef KX (f := Str.ofString "all_parcels") (st := P85.top 6) (by k_is) (by k_is) (by k_is) (by k_is)
    have d_number_of_parcel := Vf.mkDef KX (f := Str.ofString "number_of_parcel") (st := P85.top 7) (by k_is) (by k_is) (by k_is) (by k_is)
    have d_with_worth := Vf.mkDef KX (f := Str.ofString "with_worth") (st := P85.top 8) (by k_is) (by k_is) (by k_is) (by k_is)
    have d_with_worths := Vf.mkDef KX (f := Str.ofString "with_worths") (st := P85.top 9) (by k_is) (by k_is) (by k_is) (by k_is)
    have d_has_worths := Vf.mkDef KX (f := Str.ofString "has_worths") (st := P85.top 10) (by k_is) (by k_is) (by k_is) (by k_is)
    have d_is_whole := Vf.mkDef KX (f := Str.ofString "is_whole") (st := P85.top 12) (by k_is) (by k_is) (by k_is) (by k_is)
    have d_is_between := Vf.mkDef KX (f := Str.ofString "is_between") (st := P85.top 13) (by k_is) (by k_is) (by k_is) (by k_is)
    have d_is_rising := Vf.mkDef KX (f := Str.ofString "is_rising") (st := P85.top 14) (by k_is) (by k_is) (by k_is) (by k_is)
    have d_is_pairs := Vf.mkDef KX (f := Str.ofString "is_pairs") (st := P85.top 16) (by k_is) (by k_is) (by k_is) (by k_is)
    have d_are_acts := Vf.mkDef KX (f := Str.ofString "are_acts") (st := P85.top 17) (by k_is) (by k_is) (by k_is) (by k_is)
    have d_acts_anew := Vf.mkDef KX (f := Str.ofString "acts_anew") (st := P85.top 18) (by k_is) (by k_is) (by k_is) (by k_is)
    have d_numbers_by_acts := Vf.mkDef KX (f := Str.ofString "numbers_by_acts") (st := P85.top 19) (by k_is) (by k_is) (by k_is) (by k_is)
    have d_is_rule := Vf.mkDef KX (f := Str.ofString "is_rule") (st := P85.top 22) (by k_is) (by k_is) (by k_is) (by k_is)
    have d_rule_anew := Vf.mkDef KX (f := Str.ofString "rule_anew") (st := P85.top 23) (by k_is) (by k_is) (by k_is) (by k_is)
    have d_rules_anew := Vf.mkDef KX (f := Str.ofString "rules_anew") (st := P85.top 24) (by k_is) (by k_is) (by k_is) (by k_is)
    have d_rule_met := Vf.mkDef KX (f := Str.ofString "rule_met") (st := P85.top 25) (by k_is) (by k_is) (by k_is) (by k_is)
    have d_numbers_by_rules := Vf.mkDef KX (f := Str.ofString "numbers_by_rules") (st := P85.top 26) (by k_is) (by k_is) (by k_is) (by k_is)
    have d_table_of_rules := Vf.mkDef KX (f := Str.ofString "table_of_rules") (st := P85.top 27) (by k_is) (by k_is) (by k_is) (by k_is)
    have d_clash_told := Vf.mkDef KX (f := Str.ofString "clash_told") (st := P85.top 29) (by k_is) (by k_is) (by k_is) (by k_is)
    have d_with_rule := Vf.mkDef KX (f := Str.ofString "with_rule") (st := P85.top 30) (by k_is) (by k_is) (by k_is) (by k_is)
    have d_without_rule := Vf.mkDef KX (f := Str.ofString "without_rule") (st := P85.top 31) (by k_is) (by k_is) (by k_is) (by k_is)
    have d_exchanged_rules := Vf.mkDef KX (f := Str.ofString "exchanged_rules") (st := P85.top 32) (by k_is) (by k_is) (by k_is) (by k_is)
    have d_may_exchange := Vf.mkDef KX (f := Str.ofString "may_exchange") (st := P85.top 33) (by k_is) (by k_is) (by k_is) (by k_is)
    have d__law_feed := Vf.mkDef KX (f := Str.ofString "_law_feed") (st := P85.top 35) (by k_is) (by k_is) (by k_is) (by k_is)
    have d__law_draw := Vf.mkDef KX (f := Str.ofString "_law_draw") (st := P85.top 36) (by k_is) (by k_is) (by k_is) (by k_is)
    have d__law_whole := Vf.mkDef KX (f := Str.ofString "_law_whole") (st := P85.top 37) (by k_is) (by k_is) (by k_is) (by k_is)
    have d__law_are_pairs := Vf.mkDef KX (f := Str.ofString "_law_are_pairs") (st := P85.top 38) (by k_is) (by k_is) (by k_is) (by k_is)
    have d__law_are_acts := Vf.mkDef KX (f := Str.ofString "_law_are_acts") (st := P85.top 39) (by k_is) (by k_is) (by k_is) (by k_is)
    have d__law_is_rule := Vf.mkDef KX (f := Str.ofString "_law_is_rule") (st := P85.top 40) (by k_is) (by k_is) (by k_is) (by k_is)
    have d__law_copied := Vf.mkDef KX (f := Str.ofString "_law_copied") (st := P85.top 41) (by k_is) (by k_is) (by k_is) (by k_is)
    have d__law_same := Vf.mkDef KX (f := Str.ofString "_law_same") (st := P85.top 42) (by k_is) (by k_is) (by k_is) (by k_is)
    have d__law_acts := Vf.mkDef KX (f := Str.ofString "_law_acts") (st := P85.top 43) (by k_is) (by k_is) (by k_is) (by k_is)
    have d__law_rules := Vf.mkDef KX (f := Str.ofString "_law_rules") (st := P85.top 44) (by k_is) (by k_is) (by k_is) (by k_is)
    have d__law_parcels := Vf.mkDef KX (f := Str.ofString "_law_parcels") (st := P85.top 45) (by k_is) (by k_is) (by k_is) (by k_is)
    have d__law_number := Vf.mkDef KX (f := Str.ofString "_law_number") (st := P85.top 46) (by k_is) (by k_is) (by k_is) (by k_is)
    have d__law_done := Vf.mkDef KX (f := Str.ofString "_law_done") (st := P85.top 47) (by k_is) (by k_is) (by k_is) (by k_is)
    have d__law_rules_table := Vf.mkDef KX (f := Str.ofString "_law_rules_table") (st := P85.top 48) (by k_is) (by k_is) (by k_is) (by k_is)
    have d__law_name := Vf.mkDef KX (f := Str.ofString "_law_name") (st := P85.top 49) (by k_is) (by k_is) (by k_is) (by k_is)
    have d__law_fields := Vf.mkDef KX (f := Str.ofString "_law_fields") (st := P85.top 50) (by k_is) (by k_is) (by k_is) (by k_is)
    have d__law_asked := Vf.mkDef KX (f := Str.ofString "_law_asked") (st := P85.top 51) (by k_is) (by k_is) (by k_is) (by k_is)
    have d__law_due := Vf.mkDef KX (f := Str.ofString "_law_due") (st := P85.top 52) (by k_is) (by k_is) (by k_is) (by k_is)
    have d__law_deed_right := Vf.mkDef KX (f := Str.ofString "_law_deed_right") (st := P85.top 53) (by k_is) (by k_is) (by k_is) (by k_is)
    have d__law_bad_rules := Vf.mkDef KX (f := Str.ofString "_law_bad_rules") (st := P85.top 54) (by k_is) (by k_is) (by k_is) (by k_is)
    have d__law_right := Vf.mkDef KX (f := Str.ofString "_law_right") (st := P85.top 55) (by k_is) (by k_is) (by k_is) (by k_is)
    have d__law_row_right := Vf.mkDef KX (f := Str.ofString "_law_row_right") (st := P85.top 56) (by k_is) (by k_is) (by k_is) (by k_is)
    have d_law := Vf.mkDef KX (f := Str.ofString "law") (st := P85.top 57) (by k_is) (by k_is) (by k_is) (by k_is)
    have m_NoPlace := PySem.W.mg_of (n := Str.ofString "NoPlace") KX G (by k_is)
    have m_BadRule := PySem.W.mg_of (n := Str.ofString "BadRule") KX G (by k_is)
    have m_NoUse := PySem.W.mg_of (n := Str.ofString "NoUse") KX G (by k_is)
    have m_WayError := PySem.W.mg_of (n := Str.ofString "WayError") KX G (by k_is)
    have hblt : ∀ x ∈ Vf.bltN, mg x = none := by
      unfold Vf.bltN
      exact (List.forall_mem_cons.mpr ⟨(PySem.W.mg_none_of KX G (by k_is)), (List.forall_mem_cons.mpr ⟨(PySem.W.mg_none_of KX G (by k_is)), (List.forall_mem_cons.mpr ⟨(PySem.W.mg_none_of KX G (by k_is)), (List.forall_mem_cons.mpr ⟨(PySem.W.mg_none_of KX G (by k_is)), (List.forall_mem_cons.mpr ⟨(PySem.W.mg_none_of KX G (by k_is)), (List.forall_mem_cons.mpr ⟨(PySem.W.mg_none_of KX G (by k_is)), (List.forall_mem_cons.mpr ⟨(PySem.W.mg_none_of KX G (by k_is)), (List.forall_mem_cons.mpr ⟨(PySem.W.mg_none_of KX G (by k_is)), (List.forall_mem_cons.mpr ⟨(PySem.W.mg_none_of KX G (by k_is)), (List.forall_mem_cons.mpr ⟨(PySem.W.mg_none_of KX G (by k_is)), (List.forall_mem_cons.mpr ⟨(PySem.W.mg_none_of KX G (by k_is)), (List.forall_mem_cons.mpr ⟨(PySem.W.mg_none_of KX G (by k_is)), (List.forall_mem_cons.mpr ⟨(PySem.W.mg_none_of KX G (by k_is)), (List.forall_mem_cons.mpr ⟨(PySem.W.mg_none_of KX G (by k_is)), (List.forall_mem_cons.mpr ⟨(PySem.W.mg_none_of KX G (by k_is)), (List.forall_mem_cons.mpr ⟨(PySem.W.mg_none_of KX G (by k_is)), (List.forall_mem_cons.mpr ⟨(PySem.W.mg_none_of KX G (by k_is)), (List.forall_mem_cons.mpr ⟨(PySem.W.mg_none_of KX G (by k_is)), (fun _ z => by cases z)⟩)⟩)⟩)⟩)⟩)⟩)⟩)⟩)⟩)⟩)⟩)⟩)⟩)⟩)⟩)⟩)⟩)⟩)
    have hgl := Vf.glAll (gl := P85.gls) (w := w) (mg := mg) KX (by
      unfold P85.gls
      exact (List.forall_mem_cons.mpr ⟨(Vf.glInt (PySem.W.mg_of KX G (by k_is))), (fun _ z => by cases z)⟩))
    have ec_NoPlace := Vf.mkExcC (mg := mg) KX m_NoPlace (by k_is) (by k_is) (by k_is) (by k_is) (by k_is) (by k_is) (by k_is) (by k_is)
    have ec_BadRule := Vf.mkExcC (mg := mg) KX m_BadRule (by k_is) (by k_is) (by k_is) (by k_is) (by k_is) (by k_is) (by k_is) (by k_is)
    have hs := Vf.subAll (subs := P85.subs) (mg := mg) KX (by
      unfold P85.subs
      exact (List.forall_mem_cons.mpr ⟨(List.forall_mem_cons.mpr ⟨(Vf.mkSub KX m_NoPlace m_BadRule ec_NoPlace (by k_is) (by k_is) (by k_is) (by k_is) (by decide)), (List.forall_mem_cons.mpr ⟨(Vf.mkSub KX m_NoPlace m_NoPlace ec_NoPlace (by k_is) (by k_is) (by k_is) (by k_is) (by decide)), (List.forall_mem_cons.mpr ⟨(Vf.mkSub KX m_NoPlace m_NoUse ec_NoPlace (by k_is) (by k_is) (by k_is) (by k_is) (by decide)), (List.forall_mem_cons.mpr ⟨(Vf.mkSub KX m_NoPlace m_WayError ec_NoPlace (by k_is) (by k_is) (by k_is) (by k_is) (by decide)), (fun _ z => by cases z)⟩)⟩)⟩)⟩), (List.forall_mem_cons.mpr ⟨(List.forall_mem_cons.mpr ⟨(Vf.mkSub KX m_BadRule m_BadRule ec_BadRule (by k_is) (by k_is) (by k_is) (by k_is) (by decide)), (List.forall_mem_cons.mpr ⟨(Vf.mkSub KX m_BadRule m_NoPlace ec_BadRule (by k_is) (by k_is) (by k_is) (by k_is) (by decide)), (List.forall_mem_cons.mpr ⟨(Vf.mkSub KX m_BadRule m_NoUse ec_BadRule (by k_is) (by k_is) (by k_is) (by k_is) (by decide)), (List.forall_mem_cons.mpr ⟨(Vf.mkSub KX m_BadRule m_WayError ec_BadRule (by k_is) (by k_is) (by k_is) (by k_is) (by decide)), (fun _ z => by cases z)⟩)⟩)⟩)⟩), (fun _ z => by cases z)⟩)⟩))
    have xf_NoPlace := Vf.mkXfC (mg := mg) KX m_NoPlace (by k_is) (by k_is) (by k_is) (by k_is)
    have no_NoPlace := Vf.mkNo1 (mg := mg) (f := Str.ofString "k") KX m_NoPlace (by k_is)
    have ox_NoPlace := Vf.mkOex (mg := mg) KX m_NoPlace (by k_is) (by decide) (by k_is) (by k_is) (by k_is) (by k_is)
    have ini_NoPlace := Vf.mkIni (st := P85.iniS_NoPlace) (N := [Str.ofString "self", Str.ofString "k"]) (qual := Str.ofString "NoPlace.__init__") (Vf.mkInit (mg := mg) KX m_NoPlace (by k_is)) (by k_is) (by k_is) (by k_is) (by k_is) (fun _ _ _ _ _ _ us hl => match us, hl with | [_, _], _ => rfl)
    have xf_BadRule := Vf.mkXfC (mg := mg) KX m_BadRule (by k_is) (by k_is) (by k_is) (by k_is)
    have no_BadRule := Vf.mkNo1 (mg := mg) (f := Str.ofString "k") KX m_BadRule (by k_is)
    have ox_BadRule := Vf.mkOex (mg := mg) KX m_BadRule (by k_is) (by decide) (by k_is) (by k_is) (by k_is) (by k_is)
    have ini_BadRule := Vf.mkIni (st := P85.iniS_BadRule) (N := [Str.ofString "self", Str.ofString "k"]) (qual := Str.ofString "BadRule.__init__") (Vf.mkInit (mg := mg) KX m_BadRule (by k_is)) (by k_is) (by k_is) (by k_is) (by k_is) (fun _ _ _ _ _ _ us hl => match us, hl with | [_, _], _ => rfl)
    have hf := Vf.fldAll (L := P85.cls) (mg := mg) KX (by
      unfold P85.cls
      exact (List.forall_mem_cons.mpr ⟨⟨_, m_NoPlace, xf_NoPlace, no_NoPlace⟩, (List.forall_mem_cons.mpr ⟨⟨_, m_BadRule, xf_BadRule, no_BadRule⟩, (fun _ z => by cases z)⟩)⟩))
    have hrs := Vf.rsAll (L := P85.cls) (mg := mg) KX (by
      unfold P85.cls
      exact (List.forall_mem_cons.mpr ⟨⟨by decide, _, m_NoPlace, Vf.OwnExc.ab ⟨ox_NoPlace, m_NoPlace, no_NoPlace, ini_NoPlace⟩ P85.iniOk_NoPlace (by decide) (by decide)⟩, (List.forall_mem_cons.mpr ⟨⟨by decide, _, m_BadRule, Vf.OwnExc.ab ⟨ox_BadRule, m_BadRule, no_BadRule, ini_BadRule⟩ P85.iniOk_BadRule (by decide) (by decide)⟩, (fun _ z => by cases z)⟩)⟩))
    have R := Vf.rows_of (P := PySem.Challenge.pw_parcelways_k85_whole_rules_put_in_and_ou) (tab := P85.tab) KX G P85.tabEq P85.okAll P85.sigEq (P85.defAll d_all_parcels d_number_of_parcel d_with_worth d_with_worths d_has_worths d_is_whole d_is_between d_is_rising d_is_pairs d_are_acts d_acts_anew d_numbers_by_acts d_is_rule d_rule_anew d_rules_anew d_rule_met d_numbers_by_rules d_table_of_rules d_clash_told d_with_rule d_without_rule d_exchanged_rules d_may_exchange d__law_feed d__law_draw d__law_whole d__law_are_pairs d__law_are_acts d__law_is_rule d__law_copied d__law_same d__law_acts d__law_rules d__law_parcels d__law_number d__law_done d__law_rules_table d__law_name d__law_fields d__law_asked d__law_due d__law_deed_right d__law_bad_rules d__law_right d__law_row_right d_law) hblt hgl hrs hs hf
    exact Vf.law_end (k := 227) R hmg rfl P85.b_law rfl rfl rfl Vf.Q.hrun
