import PyProof.Rows.All
import HandS.ForMost
import HandS.ForExc
import HandS.More
import HandS.Walk
import HandS.Zip
import HandS.Rev
import HandS.TupAny
import HandS.Style
import HandS.Conv
import HandS.SortInts
import HandS.IsInst
import HandS.ExcInit
import HandS.ExcIs
import HandS.Flow
import HandS.Small
import KE.GoesMore
import HandS.ExcField
import KE.KExcIs
import HandS.Ends
import PySem.Challenge.RW_parcelways_k50_whole_machines_checked
/-! V0 -/
set_option autoImplicit false
set_option linter.all false
/-! V0: values, the compact tree, the evaluator. -/
namespace Vf
open PySem

abbrev Key := L2.Key
/-- a value, as data; a list, a dict: whether it is owned -/
inductive D where
  | non | bl (b : Bool) | int (i : Int) | str (x : Str)
  | tup (ds : List D)
  | lst (own : Bool) (ds : List D)
  | dct (own : Bool) (ks : List Key) (vs : List D)
  | ref (n : Nat)
  | exn (c : Str) (fs : List D)

abbrev Sto := List (List D)
inductive R (α : Type) where
  | ok (a : α) (μ : Sto)
  | exc (c : Str) (fs : List D) (μ : Sto)
  | bad
abbrev M (α : Type) := Sto → R α
def M.ret {α : Type} (a : α) : M α := fun μ => .ok a μ
def M.bind {α β : Type} (m : M α) (f : α → M β) : M β := fun μ => match m μ with
  | .ok a μ' => f a μ'
  | .exc c fs μ' => .exc c fs μ'
  | .bad => .bad
def M.bad {α : Type} : M α := fun _ => .bad
def M.exc {α : Type} (c : Str) (fs : List D) : M α := fun μ => .exc c fs μ
def LINE : Nat := 16777216
def guard' {α : Type} (b : Bool) (m : M α) : M α := match b with
  | true => m
  | false => M.bad
/-- no exception leaves it -/
def nox {α : Type} (m : M α) : M α := fun μ => match m μ with
  | .ok a μ' => .ok a μ'
  | _ => .bad
def ofO {α : Type} : Option α → M α
  | some a => M.ret a
  | none => M.bad

/-! ### bits -/
mutual
def D.fz : D → D
  | .tup ds => .tup (D.fzL ds)
  | .lst _ ds => .lst false (D.fzL ds)
  | .dct _ ks vs => .dct false ks (D.fzL vs)
  | d => d
def D.fzL : List D → List D
  | [] => []
  | d :: ds => d.fz :: D.fzL ds
end
mutual
def D.nb : D → Bool
  | .tup ds => D.nbL ds
  | .lst b ds => !b && D.nbL ds
  | .dct b _ vs => !b && D.nbL vs
  | .exn _ _ => false
  | _ => true
def D.nbL : List D → Bool
  | [] => true
  | d :: ds => d.nb && D.nbL ds
end

/-! all lists in it are owned -/
mutual
def D.ab : D → Bool
  | .tup ds => D.abL ds
  | .lst b ds => b && decide (ds.length < LINE) && D.abL ds
  | .non | .bl _ | .int _ | .str _ => true
  | _ => false
def D.abL : List D → Bool
  | [] => true
  | d :: ds => d.ab && D.abL ds
end

/-! ### data for == -/
mutual
def D.toP : D → Option PyData
  | .non => some .none
  | .bl b => some (.bool b)
  | .int i => some (.int i)
  | .str x => some (.str x)
  | .tup ds => (D.toPL ds).map .tuple
  | .lst _ ds => (D.toPL ds).map .list
  | _ => none
def D.toPL : List D → Option (List PyData)
  | [] => some []
  | d :: ds => match d.toP, D.toPL ds with
    | some p, some ps => some (p :: ps)
    | _, _ => none
end
def D.eqD (d e : D) : Option Bool := match d.toP, e.toP with
  | some p, some q => if SeqAt.shaped p && SeqAt.shaped q then some (PyData.eqv p q) else none
  | _, _ => none
/-- flat things, and == of them -/
def D.flat : D → Bool
  | .non | .bl _ | .int _ | .str _ => true
  | _ => false
def D.toV : D → L2.V
  | .non => .non | .bl b => .bl b | .int i => .int i | .str x => .str x
  | _ => .ty "?"

/-! no shared object in it -/
mutual
def D.nr : D → Bool
  | .tup ds => D.nrL ds
  | .lst _ ds => D.nrL ds
  | .dct _ _ vs => D.nrL vs
  | .non | .bl _ | .int _ | .str _ => true
  | _ => false
def D.nrL : List D → Bool
  | [] => true
  | d :: ds => d.nr && D.nrL ds
end

/-! ### the compact tree -/
inductive Bop where | add | sub | mul | fdiv | mod | pow
  deriving DecidableEq
inductive Cop where | eq | ne | lt | le | gt | ge | isN | notN | isIn | notIn
  deriving DecidableEq
inductive Ty where | int | bool | str | list | tuple | dict
  deriving DecidableEq
inductive Blt where | len | all | any | sum | sorted | list | tuple | int | abs | str | lenum | trev
  deriving DecidableEq
inductive T where
  | nm (i : Nat)
  | tup (ts : List T)
mutual
inductive E where
  | var (i : Nat) | brw (i : Nat)
  | non | bl (b : Bool) | int (i : Int) | str (x : Str)
  | glob (x : Str)
  | bin (op : Bop) (a b : E)
  | neg (a : E) | not (a : E)
  | and (a b : E) | or (a b : E)
  | cmp (op : Cop) (a b : E)
  | chain (op op' : Cop) (a b c : E)
  | ife (c a b : E)
  | tup (es : List E) | lst (es : List E) | newRef (es : List E)
  | dct0
  | dct1 (k v : E)
  | idx (a i : E)
  | slc (a : E) (lo hi : Option E)
  | rev (a : E)
  | isi (a : E) (t : Ty)
  | fld (i : Nat) (f : Str) | isE (i : Nat) (c : Str)
  | call (f : Str) (es : List E) | callB (f : Str) (es : List E)
  | blt (b : Blt) (e : E)
  | lc (t : T) (it : I) (c : Option E) (e : E)
  | lc2 (t : T) (it : I) (t' : T) (it' : I) (c : Option E) (e : E)
inductive I where
  | seq (e : E)
  | rng1 (a : E) | rng2 (a b : E)
  | enum (e : E)
  | zip (a b : E)
  | rev (e : E)
end
inductive S where
  | set (fr : Bool) (t : T) (e : E)
  | aug (i : Nat) (op : Bop) (e : E)
  | app (i : Nat) (e : E)
  | appAt (i : Nat) (k e : E)
  | put (i : Nat) (k e : E)
  | rput (a k e : E)
  | raug (a k : E) (op : Bop) (e : E)
  | expr (e : E)
  | ret (e : E) | retN | retMv (i : Nat)
  | ife (c : E) (a b : List S)
  | for_ (t : T) (it : I) (b : List S)
  | while_ (c : E) (b : List S)
  | raise (c : Str) (es : List E)
  | nev
  | tryS (c : Str) (i : Nat) (s : S) (hs : List S)
  | frz (i : Nat) | bend (i : Nat)
  | pass | brk | cont
structure Fn where
  np : Nat
  ns : Nat
  body : List S
abbrev Table := List (Str × Fn)

/-! ### operations -/
/-- an operand that is read: a borrowed list's parts are frozen; anything else is frozen itself -/
def D.inb : D → Bool
  | .lst _ ds => D.nbL ds
  | .dct _ _ vs => D.nbL vs
  | d => d.nb
def isBrw : E → Bool
  | .brw _ => true
  | _ => false
def opnd (br : Bool) (d : D) : M D := match br with
  | true => guard' d.inb (M.ret d)
  | false => M.ret d.fz
def keyOf : D → Option Key
  | .int i => some (.inl i)
  | .str x => some (.inr x)
  | _ => none
def dkey : Key → D
  | .inl i => .int i
  | .inr x => .str x
def kget : List Key → List D → Key → Option D
  | k :: ks, v :: vs, q => if k = q then some v else kget ks vs q
  | _, _, _ => none
def krep : List Key → List D → Key → D → List D
  | k :: ks, v :: vs, q, x => (if k = q then x else v) :: krep ks vs q x
  | _, vs, _, _ => vs
def kput (ks : List Key) (vs : List D) (q : Key) (x : D) : List Key × List D :=
  if ks.any (fun k => decide (k = q)) = true then (ks, krep ks vs q x) else (ks ++ [q], vs ++ [x])
/-- an insertion sort -/
def ins (x : Int) : List Int → List Int
  | [] => [x]
  | y :: r => if x ≤ y then x :: y :: r else y :: ins x r
def isort : List Int → List Int
  | [] => []
  | x :: r => ins x (isort r)
def dInts : List D → Option (List Int)
  | [] => some []
  | .int i :: r => (dInts r).map (i :: ·)
  | _ => none
def dBools : List D → Option (List Bool)
  | [] => some []
  | .bl i :: r => (dBools r).map (i :: ·)
  | _ => none
def keyInts : List Key → Option (List Int)
  | [] => some []
  | .inl i :: r => (keyInts r).map (i :: ·)
  | _ => none
def B64 : Int := 18446744073709551616
def tLst (o : Bool) (ds : List D) : M D := guard' (decide (ds.length ≤ LINE)) (M.ret (.lst o ds))
def tTup (ds : List D) : M D := guard' (decide (ds.length ≤ LINE)) (M.ret (.tup ds))
def binD (op : Bop) (x y : D) : M D := match op, x, y with
  | .add, .int i, .int j => M.ret (.int (i + j))
  | .sub, .int i, .int j => M.ret (.int (i - j))
  | .mul, .int i, .int j => guard' (decide ((-B64 < i ∧ i < B64) ∨ (-B64 < j ∧ j < B64))) (M.ret (.int (i * j)))
  | .mul, .lst _ ds, .int k => guard' (decide (-9223372036854775808 ≤ k ∧ k < 9223372036854775808 ∧ ds.length * k.toNat ≤ LINE)) (M.ret (.lst true (List.replicate k.toNat ds).flatten))
  | .fdiv, .int i, .int j => guard' (decide (0 < j ∧ j < 1073741824)) (M.ret (.int (i / j)))
  | .mod, .int i, .int j => guard' (decide (0 < j)) (M.ret (.int (i % j)))
  | .pow, .int i, .int j => guard' (decide (0 ≤ j ∧ j ≤ 1000000 ∧ -B64 < i ∧ i < B64)) (M.ret (.int (i ^ j.toNat)))
  | .add, .str x, .str y => guard' (decide (x.length + y.length ≤ LINE)) (M.ret (.str (x ++ y)))
  | .add, .tup as, .tup bs => tTup (as ++ bs)
  | .add, .lst _ as, .lst _ bs => tLst true (as ++ bs)
  | _, _, _ => M.bad
def inD (x y : D) : Option Bool := match y with
  | .lst _ ds => if x.flat && ds.all D.flat then some (L2.inV x.toV (ds.map D.toV)) else none
  | .tup ds => if x.flat && ds.all D.flat then some (L2.inV x.toV (ds.map D.toV)) else none
  | .dct true ks vs => (keyOf x).map fun k => (kget ks vs k).isSome
  | .dct false ks vs => match x with
    | .str z => some (kget ks vs (.inr z)).isSome
    | _ => none
  | _ => none
def cmpD (op : Cop) (x y : D) : M D := match op with
  | .eq => ofO ((D.eqD x y).map .bl)
  | .ne => ofO ((D.eqD x y).map fun b => .bl (!b))
  | .lt => match x, y with | .int i, .int j => M.ret (.bl (decide (i < j))) | _, _ => M.bad
  | .le => match x, y with | .int i, .int j => M.ret (.bl (decide (i ≤ j))) | _, _ => M.bad
  | .gt => match x, y with | .int i, .int j => M.ret (.bl (decide (j < i))) | _, _ => M.bad
  | .ge => match x, y with | .int i, .int j => M.ret (.bl (decide (j ≤ i))) | _, _ => M.bad
  | .isN => match x, y with | .non, .non => M.ret (.bl true) | _, .non => M.ret (.bl false) | _, _ => M.bad
  | .notN => match x, y with | .non, .non => M.ret (.bl false) | _, .non => M.ret (.bl true) | _, _ => M.bad
  | .isIn => ofO ((inD x y).map .bl)
  | .notIn => ofO ((inD x y).map fun b => .bl (!b))
def truD : D → Option Bool
  | .non => some false
  | .bl b => some b
  | .int i => some (i != 0)
  | .str x => if x.length ≤ LINE then some ((x.length : Int) != 0) else none
  | .tup ds => some (!ds.isEmpty)
  | .lst _ ds => some (!ds.isEmpty)
  | _ => none
def getD' (ds : List D) (i : Int) : M D := match L2.atI ds i with
  | some d => M.ret d
  | none => M.bad
def idxD (x i : D) : M D := match x, i with
  | .tup ds, .int i => getD' ds i
  | .lst _ ds, .int i => getD' ds i
  | .dct true ks vs, k => match keyOf k with
    | some k => ofO (kget ks vs k)
    | none => M.bad
  | .dct false ks vs, .str z => ofO (kget ks vs (.inr z))
  | .ref n, .int i => fun μ => match μ[n]? with
    | some ds => getD' ds i μ
    | none => .bad
  | _, _ => M.bad
def cutD (ds : List D) (lo hi : Option Int) : List D := (ds.drop (HT.sIx ds.length 0 lo)).take (HT.sIx ds.length ds.length hi - HT.sIx ds.length 0 lo)
def slcD (x : D) (lo hi : Option Int) : M D := match x with
  | .tup ds => M.ret (.tup (cutD ds lo hi))
  | .lst _ ds => M.ret (.lst true (cutD ds lo hi))
  | _ => M.bad
def isTy : D → Ty → Bool
  | .int _, .int => true
  | .bl _, .int => true
  | .bl _, .bool => true
  | .str _, .str => true
  | .lst _ _, .list => true
  | .tup _, .tuple => true
  | .dct _ _ _, .dict => true
  | _, _ => false
def hasTy : D → Bool
  | .ref _ => false
  | .exn _ _ => false
  | _ => true
def num : Nat → List D → List D
  | _, [] => []
  | n, d :: ds => .tup [.int n, d] :: num (n + 1) ds
def bltD (b : Blt) (x : D) : M D := match b, x with
  | .len, .lst _ ds => M.ret (.int ds.length)
  | .len, .tup ds => M.ret (.int ds.length)
  | .len, .str s => guard' (decide (s.length ≤ LINE)) (M.ret (.int s.length))
  | .len, .ref n => fun μ => match μ[n]? with
    | some ds => .ok (.int ds.length) μ
    | none => .bad
  | .all, .lst _ ds => ofO ((dBools ds).map fun bs => .bl (bs.all id))
  | .any, .lst _ ds => ofO ((dBools ds).map fun bs => .bl (bs.any id))
  | .sum, .lst _ ds => ofO ((dInts ds).map fun is => .int is.sum)
  | .sorted, .lst _ ds => ofO ((dInts ds).map fun is => .lst true ((isort is).map .int))
  | .sorted, .dct true ks _ => guard' (decide (ks.length < 64)) (ofO ((keyInts ks).map fun is => .lst true ((isort is).map .int)))
  | .list, .lst _ ds => M.ret (.lst true ds)
  | .list, .tup ds => M.ret (.lst true ds)
  | .tuple, .lst _ ds => M.ret (.tup ds)
  | .tuple, .tup ds => M.ret (.tup ds)
  | .int, .int i => M.ret (.int i)
  | .int, .bl b => M.ret (.int (if b then 1 else 0))
  | .abs, .int i => M.ret (.int (if i < 0 then -i else i))
  | .str, .int i => guard' (decide (i.natAbs.log2 < 1920)) (M.ret (.str (toString i)))
  | .lenum, .lst _ ds => M.ret (.lst true (num 0 ds))
  | .lenum, .tup ds => M.ret (.lst true (num 0 ds))
  | .trev, .lst _ ds => M.ret (.tup ds.reverse)
  | _, _ => M.bad
def tests : D → M Bool := fun d => ofO (truD d)

/-! ### targets -/
abbrev Env := List (Option D)
mutual
def asg : T → D → Env → Option Env
  | .nm i, d, ρ => if i < ρ.length then some (ρ.set i (some d)) else none
  | .tup ts, .tup ds, ρ => if D.nbL ds then asgL ts ds ρ else none
  | .tup _, _, _ => none
def asgL : List T → List D → Env → Option Env
  | [], [], ρ => some ρ
  | t :: ts, d :: ds, ρ => match asg t d ρ with
    | some ρ' => asgL ts ds ρ'
    | none => none
  | _, _, _ => none
end

/-! ### loops -/
/-- a comprehension's turns -/
def mapC (f : D → M (Option D)) : List D → List D → M (List D)
  | [], acc => M.ret acc
  | x :: xs, acc => M.bind (f x) fun
    | some y => guard' (decide (acc.length < LINE)) (mapC f xs (acc ++ [y]))
    | none => mapC f xs acc
def foldC (f : D → List D → M (List D)) : List D → List D → M (List D)
  | [], acc => M.ret acc
  | x :: xs, acc => M.bind (f x acc) fun acc' => foldC f xs acc'
inductive Fl where
  | nx (ρ : Env) | brk (ρ : Env) | cont (ρ : Env) | rt (d : D)
def forL (f : D → Env → M Fl) : List D → Env → M Fl
  | [], ρ => M.ret (.nx ρ)
  | x :: xs, ρ => M.bind (f x ρ) fun
    | .nx ρ' => forL f xs ρ'
    | .cont ρ' => forL f xs ρ'
    | .brk ρ' => M.ret (.nx ρ')
    | .rt d => M.ret (.rt d)
def whl (c : Env → M Bool) (f : Env → M Fl) : Nat → Env → M Fl
  | 0, _ => M.bad
  | n + 1, ρ => M.bind (c ρ) fun
    | false => M.ret (.nx ρ)
    | true => M.bind (f ρ) fun
      | .nx ρ' => whl c f n ρ'
      | .cont ρ' => whl c f n ρ'
      | .brk ρ' => M.ret (.nx ρ')
      | .rt d => M.ret (.rt d)
def WF : Nat := 100000
def wipe (ρ : Env) : List Nat → Env
  | [] => ρ
  | i :: is => (wipe ρ is).set i none
mutual
def T.ix : T → List Nat
  | .nm i => [i]
  | .tup ts => T.ixL ts
def T.ixL : List T → List Nat
  | [] => []
  | t :: ts => t.ix ++ T.ixL ts
end
def zipD : List D → List D → List D
  | x :: xs, y :: ys => .tup [x, y] :: zipD xs ys
  | _, _ => []
def chars (x : Str) : List D := x.cps.toList.map fun c => .str ⟨#[c]⟩
def items : D → M (List D)
  | .lst _ ds => M.ret ds
  | .tup ds => M.ret ds
  | _ => M.bad
def itemsL : D → M (List D)
  | .lst _ ds => M.ret ds
  | _ => M.bad
def rng (a b : Int) : M (List D) := guard' (decide (-4611686018427387904 ≤ a ∧ a < 4611686018427387904 ∧ -4611686018427387904 ≤ b ∧ b < 4611686018427387904)) (M.ret ((List.range (b - a).toNat).map fun i => .int (a + (i : Nat))))

/-! ### the evaluator -/
/-- what is known of the exceptions' classes: the fields; is one of the other -/
structure XI where
  flds : Str → Option (List Str)
  sub : Str → Str → Option Bool
structure Cfg where
  fn : Str → List D → M D
  gl : Str → Option D
  xi : XI
section
variable (Φ : Cfg)
mutual
def evE : E → Env → M D
  | .var i, ρ => match ρ[i]? with
    | some (some d) => guard' d.nb (M.ret d)
    | _ => M.bad
  | .brw i, ρ => match ρ[i]? with
    | some (some d) => M.ret d
    | _ => M.bad
  | .non, _ => M.ret .non
  | .bl b, _ => M.ret (.bl b)
  | .int i, _ => M.ret (.int i)
  | .str x, _ => M.ret (.str x)
  | .glob x, _ => ofO (Φ.gl x)
  | .bin op a b, ρ => M.bind (M.bind (evE a ρ) (opnd (isBrw a))) fun x => M.bind (M.bind (evE b ρ) (opnd (isBrw b))) fun y => binD op x y
  | .neg a, ρ => M.bind (evE a ρ) fun | .int i => M.ret (.int (-i)) | _ => M.bad
  | .not a, ρ => M.bind (M.bind (evE a ρ) (opnd (isBrw a))) fun x => M.bind (tests x) fun b => M.ret (.bl (!b))
  | .and a b, ρ => M.bind (evE a ρ) fun x => M.bind (tests x) fun | true => evE b ρ | false => M.ret x
  | .or a b, ρ => M.bind (evE a ρ) fun x => M.bind (tests x) fun | true => M.ret x | false => evE b ρ
  | .cmp op a b, ρ => M.bind (M.bind (evE a ρ) (opnd (isBrw a))) fun x => M.bind (M.bind (evE b ρ) (opnd (isBrw b))) fun y => cmpD op x y
  | .chain op op' a b c, ρ => M.bind (M.bind (evE a ρ) (opnd (isBrw a))) fun x => M.bind (M.bind (evE b ρ) (opnd (isBrw b))) fun y => M.bind (cmpD op x y) fun
    | .bl true => M.bind (M.bind (evE c ρ) (opnd (isBrw c))) fun z => cmpD op' y z
    | .bl false => M.ret (.bl false)
    | _ => M.bad
  | .ife c a b, ρ => M.bind (M.bind (M.bind (evE c ρ) (opnd (isBrw c))) tests) fun | true => evE a ρ | false => evE b ρ
  | .tup es, ρ => M.bind (evEs es ρ) fun ds => tTup ds
  | .lst es, ρ => M.bind (evEs es ρ) fun ds => tLst true ds
  | .newRef es, ρ => M.bind (evEs es ρ) fun ds => guard' (decide (ds.length ≤ LINE) && D.nbL (ds.map D.fz)) fun μ => .ok (.ref μ.length) (μ ++ [ds.map D.fz])
  | .dct0, _ => M.ret (.dct true [] [])
  | .dct1 k v, ρ => M.bind (evE k ρ) fun k => M.bind (evE v ρ) fun v => match keyOf k with
      | some k => guard' v.nb (M.ret (.dct true [k] [v]))
      | none => M.bad
  | .idx a i, ρ => M.bind (M.bind (evE a ρ) (opnd (isBrw a))) fun x => M.bind (evE i ρ) fun y => idxD x y
  | .slc a lo hi, ρ => M.bind (M.bind (evE a ρ) (opnd (isBrw a))) fun x => M.bind (evO lo ρ) fun l => M.bind (evO hi ρ) fun h => slcD x l h
  | .rev a, ρ => M.bind (M.bind (evE a ρ) (opnd (isBrw a))) fun
    | .lst _ ds => M.ret (.lst true ds.reverse)
    | _ => M.bad
  | .isi a t, ρ => M.bind (M.bind (evE a ρ) (opnd (isBrw a))) fun x => guard' (hasTy x) (M.ret (.bl (isTy x t)))
  | .fld i f, ρ => match ρ[i]? with
    | some (some (.exn c fs)) => match Φ.xi.flds c with
      | some ns => ofO ((ns.zip fs).lookup f)
      | none => M.bad
    | _ => M.bad
  | .isE i k, ρ => match ρ[i]? with
    | some (some (.exn c _)) => ofO ((Φ.xi.sub c k).map .bl)
    | _ => M.bad
  | .call f es, ρ => M.bind (evEs es ρ) fun ds => Φ.fn f (D.fzL ds)
  | .callB f es, ρ => M.bind (evEs es ρ) fun ds μ => match Φ.fn f (D.fzL ds) [] with
    | .ok d _ => if d.flat && D.nrL ds then .ok d μ else .bad
    | _ => .bad
  | .blt b e, ρ => M.bind (M.bind (evE e ρ) (opnd (isBrw e))) fun x => bltD b x
  | .lc t it c e, ρ => M.bind (evI it ρ) fun xs => M.bind (nox (mapC (fun x => match asg t x (wipe ρ t.ix) with
      | some ρ' => M.bind (evC c ρ') fun | true => M.bind (evE e ρ') fun y => M.ret (some y) | false => M.ret none
      | none => M.bad) xs [])) fun ys => M.ret (.lst true ys)
  | .lc2 t it t' it' c e, ρ => M.bind (evI it ρ) fun xs => M.bind (nox (foldC (fun x acc => match asg t x (wipe ρ (t.ix ++ t'.ix)) with
      | some ρ1 => M.bind (evI it' ρ1) fun ys => mapC (fun y => match asg t' y (wipe ρ1 t'.ix) with
        | some ρ2 => M.bind (evC c ρ2) fun | true => M.bind (evE e ρ2) fun z => M.ret (some z) | false => M.ret none
        | none => M.bad) ys acc
      | none => M.bad) xs [])) fun ys => M.ret (.lst true ys)
def evEs : List E → Env → M (List D)
  | [], _ => M.ret []
  | e :: es, ρ => M.bind (evE e ρ) fun d => M.bind (evEs es ρ) fun ds => M.ret (d :: ds)
def evO : Option E → Env → M (Option Int)
  | none, _ => M.ret none
  | some e, ρ => M.bind (evE e ρ) fun | .int i => M.ret (some i) | _ => M.bad
def evC : Option E → Env → M Bool
  | none, _ => M.ret true
  | some e, ρ => M.bind (M.bind (evE e ρ) (opnd (isBrw e))) fun x => tests x
def evI : I → Env → M (List D)
  | .seq e, ρ => M.bind (M.bind (evE e ρ) (opnd (isBrw e))) items
  | .rng1 a, ρ => M.bind (evE a ρ) fun | .int j => rng 0 j | _ => M.bad
  | .rng2 a b, ρ => M.bind (evE a ρ) fun x => M.bind (evE b ρ) fun y => match x, y with | .int i, .int j => rng i j | _, _ => M.bad
  | .enum e, ρ => M.bind (M.bind (evE e ρ) (opnd (isBrw e))) fun x => M.bind (itemsL x) fun ds => M.ret (num 0 ds)
  | .zip a b, ρ => M.bind (M.bind (evE a ρ) (opnd (isBrw a))) fun x => M.bind (M.bind (evE b ρ) (opnd (isBrw b))) fun y => match x, y with
    | .lst _ xs, .lst _ ys => M.ret (zipD xs ys)
    | .tup xs, .tup ys => M.ret (zipD xs ys)
    | .lst _ xs, .tup ys => M.ret (zipD xs ys)
    | .str s, .lst _ ys => M.ret (zipD (chars s) ys)
    | _, _ => M.bad
  | .rev e, ρ => M.bind (M.bind (evE e ρ) (opnd (isBrw e))) fun x => M.bind (itemsL x) fun ds => M.ret ds.reverse
end
end

/-! ### statements -/
def augD (op : Bop) (x y : D) : M D := match op, x, y with
  | .add, .int i, .int j => M.ret (.int (i + j))
  | .sub, .int i, .int j => M.ret (.int (i - j))
  | _, _, _ => M.bad
def ixD (n : Nat) : D → Option Nat
  | .int k => L2.ixN n k
  | _ => none
def putD (x k d : D) : M D := match x with
  | .lst true ds => match ixD ds.length k with
    | some j => guard' (D.nbL ds) (M.ret (.lst true (ds.set j d)))
    | none => M.bad
  | .dct true ks vs => match keyOf k with
    | some k => guard' (decide (ks.length < LINE)) (M.ret (.dct true (kput ks vs k d).1 (kput ks vs k d).2))
    | none => M.bad
  | _ => M.bad
def setR (a k d : D) : M Unit := match a with
  | .ref n => fun μ => match μ[n]? with
    | some ds => match ixD ds.length k with
      | some j => .ok () (μ.set n (ds.set j d))
      | none => .bad
    | none => .bad
  | _ => M.bad
def getR (a k : D) : M D := match a with
  | .ref n => fun μ => match μ[n]? with
    | some ds => match ixD ds.length k with
      | some j => ofO ds[j]? μ
      | none => .bad
    | none => .bad
  | _ => M.bad
def D.isX : D → Bool
  | .exn _ _ => true
  | _ => false
/-- no exception in a slot -/
def noEx : Env → Bool
  | [] => true
  | some (.exn _ _) :: _ => false
  | _ :: ρ => noEx ρ
def allNb : Env → Bool
  | [] => true
  | some d :: ρ => d.nb && allNb ρ
  | none :: ρ => allNb ρ
/-- the end of an except suite: the slot is emptied -/
def outX (i : Nat) : Fl → M Fl
  | .nx ρ => guard' (noEx (ρ.set i none)) (M.ret (.nx (ρ.set i none)))
  | .brk ρ => guard' (noEx (ρ.set i none)) (M.ret (.brk (ρ.set i none)))
  | .cont ρ => guard' (noEx (ρ.set i none)) (M.ret (.cont (ρ.set i none)))
  | .rt d => M.ret (.rt d)
/-- try: one statement; except c as slot i -/
def tryK (Φ : Cfg) (c : Str) (i : Nat) (body hs : Env → M Fl) (ρ : Env) : M Fl := guard' (allNb ρ && decide (i < ρ.length)) fun μ => match body ρ μ with
  | .ok fl μ' => .ok fl μ'
  | .bad => .bad
  | .exc k fs μ' => match Φ.xi.sub k c with
    | some true => nox (M.bind (hs (ρ.set i (some (.exn k fs)))) (outX i)) μ'
    | some false => .exc k fs μ'
    | none => .bad
section
variable (Φ : Cfg)
mutual
def exS : S → Env → M Fl
  | .set fr t e, ρ => M.bind (evE Φ e ρ) fun d => match asg t (match fr with | true => d.fz | false => d) ρ with
    | some ρ' => M.ret (.nx ρ')
    | none => M.bad
  | .aug i op e, ρ => match ρ[i]? with
    | some (some x) => M.bind (evE Φ e ρ) fun y => M.bind (augD op x y) fun z => M.ret (.nx (ρ.set i (some z)))
    | _ => M.bad
  | .app i e, ρ => match ρ[i]? with
    | some (some (.lst true ds)) => M.bind (evE Φ e ρ) fun d => guard' (decide (ds.length < LINE)) (M.ret (.nx (ρ.set i (some (.lst true (ds ++ [d]))))))
    | _ => M.bad
  | .appAt i k e, ρ => match ρ[i]? with
    | some (some (.lst true ds)) => M.bind (evE Φ k ρ) fun k => match ixD ds.length k with
      | some j => match ds[j]? with
        | some (.lst true es) => M.bind (evE Φ e ρ) fun d => guard' (decide (es.length < LINE)) (M.ret (.nx (ρ.set i (some (.lst true (ds.set j (.lst true (es ++ [d]))))))))
        | _ => M.bad
      | none => M.bad
    | _ => M.bad
  | .put i k e, ρ => match ρ[i]? with
    | some (some x) => M.bind (evE Φ e ρ) fun d => M.bind (evE Φ k ρ) fun k => guard' d.nb (M.bind (putD x k d) fun x' => M.ret (.nx (ρ.set i (some x'))))
    | _ => M.bad
  | .rput a k e, ρ => M.bind (evE Φ e ρ) fun d => M.bind (evE Φ a ρ) fun a => M.bind (evE Φ k ρ) fun k => guard' d.nb (M.bind (setR a k d) fun _ => M.ret (.nx ρ))
  | .raug a k op e, ρ => M.bind (evE Φ a ρ) fun a => M.bind (evE Φ k ρ) fun k => M.bind (getR a k) fun x => M.bind (evE Φ e ρ) fun y => M.bind (augD op x y) fun d => M.bind (setR a k d) fun _ => M.ret (.nx ρ)
  | .expr e, ρ => M.bind (evE Φ e ρ) fun _ => M.ret (.nx ρ)
  | .ret e, ρ => M.bind (evE Φ e ρ) fun d => M.ret (.rt d)
  | .retN, _ => M.ret (.rt .non)
  | .retMv i, ρ => match ρ[i]? with
    | some (some d) => guard' (!d.isX) (M.ret (.rt d))
    | _ => M.bad
  | .ife c a b, ρ => M.bind (M.bind (M.bind (evE Φ c ρ) (opnd (isBrw c))) tests) fun | true => exSs a ρ | false => exSs b ρ
  | .for_ t it b, ρ => M.bind (evI Φ it ρ) fun xs => forL (fun x ρ => match asg t x ρ with
      | some ρ' => exSs b ρ'
      | none => M.bad) xs ρ
  | .while_ c b, ρ => whl (fun ρ => M.bind (M.bind (evE Φ c ρ) (opnd (isBrw c))) tests) (fun ρ => exSs b ρ) WF ρ
  | .nev, _ => M.bad
  | .tryS c i s hs, ρ => tryK Φ c i (fun ρ => exS s ρ) (fun ρ => exSs hs ρ) ρ
  | .raise c es, ρ => M.bind (evEs Φ es ρ) fun ds => guard' (D.nbL ds) (M.exc c ds)
  | .frz i, ρ => match ρ[i]? with
    | some (some d) => M.ret (.nx (ρ.set i (some d.fz)))
    | _ => M.bad
  | .bend i, ρ => match ρ[i]? with
    | some (some d) => guard' d.ab (M.ret (.nx (ρ.set i none)))
    | _ => M.bad
  | .pass, ρ => M.ret (.nx ρ)
  | .brk, ρ => M.ret (.brk ρ)
  | .cont, ρ => M.ret (.cont ρ)
def exSs : List S → Env → M Fl
  | [], ρ => M.ret (.nx ρ)
  | s :: ss, ρ => M.bind (exS s ρ) fun
    | .nx ρ' => exSs ss ρ'
    | f => M.ret f
end
end
/-! ### a program -/
structure Prog where
  tab : Table
  prim : List (Str × (Cfg → List D → M D))
  gl : List (Str × D)
  xi : XI
def start (n : Nat) (ds : List D) : Env := ds.map some ++ List.replicate (n - ds.length) none
def endFl : Fl → M D
  | .rt d => M.ret d
  | .nx _ => M.ret .non
  | _ => M.bad
def runFn (Φ : Cfg) (fn : Fn) (ds : List D) : M D := guard' (decide (ds.length = fn.np)) (M.bind (exSs Φ fn.body (start fn.ns ds)) endFl)
def run (p : Prog) : Nat → Str → List D → M D
  | 0, _, _ => M.bad
  | k + 1, f, ds => match p.prim.lookup f with
    | some g => g ⟨run p k, fun x => p.gl.lookup x, p.xi⟩ ds
    | none => match p.tab.lookup f with
      | some fn => runFn ⟨run p k, fun x => p.gl.lookup x, p.xi⟩ fn ds
      | none => M.bad
end Vf

/-! V1 -/
set_option autoImplicit false
set_option linter.all false
set_option Elab.async false
set_option maxHeartbeats 1000000
/-! V1: what a value stands for in the heap. -/
namespace Vf
open PySem PySem.Spec PyProof.Rows L2

/-- where one stands: the heap, what may be written, the shared objects -/
structure Sx where
  H : Hp
  O : Addr → Prop
  ι : List Addr

/-- a dict of the module -/
def KD (K : PySem.W.Frag) (w : World) (a : Addr) (ks : List Key) (vs : List V) : Prop :=
  ∃ es n, KDict K w a es n ∧ ∀ z : Str, match valV (ks.zip vs) (.inr z : Key) with
    | some v => ∃ u, PySem.W.nsIn K a z = some (some u) ∧ RelV v u
    | none => PySem.W.nsIn K a z = some none
/-- a list of the module -/
def KLst (K : PySem.W.Frag) (a : Addr) (vs : List V) : Prop := ∃ (o : Obj) (its : Array Value) (n : Nat), K.lookup a = some o ∧ o.cls = .type "list" ∧ o.dict = none ∧ o.data = .seq its n ∧ its.size ≤ sizeLine ∧ Vals vs its.toList
def RdL (K : PySem.W.Frag) (s : Sx) (a : Addr) (vs : List V) : Prop := (Rd s.H a (.lst vs) ∧ a ∉ s.ι) ∨ KLst K a vs
def FzL (K : PySem.W.Frag) (s : Sx) (a : Addr) (vs : List V) : Prop := (Rd s.H a (.lst vs) ∧ ¬ s.O a) ∨ KLst K a vs
theorem KLst.sq {K : PySem.W.Frag} {H : Hp} {a : Addr} {vs : List V} (h : KLst K a vs) : SqL K H a vs := .inr h
theorem RdL.sq {K : PySem.W.Frag} {s : Sx} {a : Addr} {vs : List V} (h : RdL K s a vs) : SqL K s.H a vs := h.elim (fun z => .inl z.1) KLst.sq
theorem FzL.sq {K : PySem.W.Frag} {s : Sx} {a : Addr} {vs : List V} (h : FzL K s a vs) : SqL K s.H a vs := h.elim (fun z => .inl z.1) KLst.sq
def RdD (s : Sx) (a : Addr) (ks : List Key) (vs : List V) : Prop := Rd s.H a (.dK (ks.zip vs)) ∧ a ∉ s.ι
def FzD (K : PySem.W.Frag) (w : World) (s : Sx) (a : Addr) (ks : List Key) (vs : List V) : Prop := (Rd s.H a (.dK (ks.zip vs)) ∧ ¬ s.O a) ∨ KD K w a ks vs

section
variable (K : PySem.W.Frag) (w : World)
mutual
def Rep (s : Sx) : D → V → List Addr → Prop
  | .non, v, o => v = .non ∧ o = []
  | .bl b, v, o => v = .bl b ∧ o = []
  | .int i, v, o => v = .int i ∧ o = []
  | .str x, v, o => v = .str x ∧ o = []
  | .tup ds, v, o => ∃ a vs, v = .ref a ∧ SqT K s.H a vs ∧ RepL s ds vs o
  | .lst true ds, v, o => ∃ a vs o', v = .ref a ∧ s.H a = some (.lst vs) ∧ o = a :: o' ∧ RepL s ds vs o'
  | .lst false ds, v, o => ∃ a vs, v = .ref a ∧ FzL K s a vs ∧ o = [] ∧ RepL s ds vs []
  | .dct true ks ds, v, o => ∃ a vs, v = .ref a ∧ s.H a = some (.dK (ks.zip vs)) ∧ o = [a] ∧ ks.length = ds.length ∧ RepL s ds vs []
  | .dct false ks ds, v, o => ∃ a vs, v = .ref a ∧ FzD K w s a ks vs ∧ o = [] ∧ ks.length = ds.length ∧ RepL s ds vs []
  | .ref n, v, o => ∃ a, s.ι[n]? = some a ∧ v = .ref a ∧ o = []
  | .exn _ _, _, _ => False
def RepL (s : Sx) : List D → List V → List Addr → Prop
  | [], vs, o => vs = [] ∧ o = []
  | d :: ds, vs, o => ∃ v vs' o1 o2, vs = v :: vs' ∧ o = o1 ++ o2 ∧ Rep s d v o1 ∧ RepL s ds vs' o2
end
/-- an operand: its parts are frozen -/
def RepB (s : Sx) : D → V → Prop
  | .lst _ ds, v => ∃ a vs, v = .ref a ∧ RdL K s a vs ∧ RepL K w s ds vs []
  | .dct true ks ds, v => ∃ a vs, v = .ref a ∧ RdD s a ks vs ∧ ks.length = ds.length ∧ RepL K w s ds vs []
  | d, v => Rep K w s d v []
end

/-- frozen things stay -/
structure Kp (s s' : Sx) : Prop where
  mt : ∀ a, s.O a → Mut (s.H a)
  ext : ∀ a u, s.H a = some u → ¬ s.O a → s'.H a = some u
  dn : ∀ a, s'.O a → s.O a ∨ s.H a = none
  pre : ∃ t, s'.ι = s.ι ++ t ∧ ∀ a ∈ t, s.H a = none
section
variable {K : PySem.W.Frag} {w : World} {s s' : Sx}
theorem not_mut_tup {vs : List V} : ¬ Mut (some (.tup vs)) := fun z => z
theorem not_mut_frz {o : Obj} {u : HO} : ¬ Mut (some (.frz o u)) := fun z => z
theorem Kp.sqT (k : Kp s s') {a : Addr} {vs : List V} (h : SqT K s.H a vs) : SqT K s'.H a vs := by
  rcases h with (h | ⟨o, h⟩) | h
  · exact .inl (.inl (k.ext _ _ h fun q => by have := k.mt a q; rw [h] at this; exact this))
  · exact .inl (.inr ⟨o, k.ext _ _ h fun q => by have := k.mt a q; rw [h] at this; exact this⟩)
  · exact .inr h
theorem Kp.live (k : Kp s s') {a : Addr} {u : HO} (h : s.H a = some u) (n : ¬ s.O a) : ¬ s'.O a := fun q => by
  rcases k.dn a q with z | z
  · exact n z
  · rw [h] at z; cases z
theorem Kp.rd (k : Kp s s') {a : Addr} {u : HO} (h : Rd s.H a u) (n : ¬ s.O a) : Rd s'.H a u ∧ ¬ s'.O a := by
  rcases h with h | ⟨o, h⟩
  · exact ⟨.inl (k.ext _ _ h n), k.live h n⟩
  · exact ⟨.inr ⟨o, k.ext _ _ h n⟩, k.live h n⟩
theorem Kp.fzL (k : Kp s s') {a : Addr} {vs : List V} (h : FzL K s a vs) : FzL K s' a vs := h.imp (fun h => k.rd h.1 h.2) id
theorem Kp.fzD (k : Kp s s') {a : Addr} {ks : List Key} {vs : List V} (h : FzD K w s a ks vs) : FzD K w s' a ks vs := by
  rcases h with ⟨h, n⟩ | h
  · exact .inl (k.rd h n)
  · exact .inr h
theorem Kp.ref (k : Kp s s') {n : Nat} {a : Addr} (h : s.ι[n]? = some a) : s'.ι[n]? = some a := by
  obtain ⟨t, e, _⟩ := k.pre
  rw [e, List.getElem?_append_left (List.getElem?_eq_some_iff.mp h).1]
  exact h
mutual
theorem Rep.keep (k : Kp s s') : ∀ (d : D) (v : V) (o : List Addr), Rep K w s d v o → (∀ a ∈ o, s'.H a = s.H a) → Rep K w s' d v o
  | .non, _, _, h, _ => h
  | .bl _, _, _, h, _ => h
  | .int _, _, _, h, _ => h
  | .str _, _, _, h, _ => h
  | .tup ds, v, o, h, ho => by
    obtain ⟨a, vs, e, q, r⟩ := h
    exact ⟨a, vs, e, k.sqT q, RepL.keep k ds vs o r ho⟩
  | .lst true ds, v, o, h, ho => by
    obtain ⟨a, vs, o', e, q, eo, r⟩ := h
    subst eo
    exact ⟨a, vs, o', e, (ho a List.mem_cons_self).trans q, rfl, RepL.keep k ds vs o' r fun b hb => ho b (List.mem_cons_of_mem _ hb)⟩
  | .lst false ds, v, o, h, ho => by
    obtain ⟨a, vs, e, q, eo, r⟩ := h
    exact ⟨a, vs, e, k.fzL q, eo, RepL.keep k ds vs [] r fun _ z => nomatch z⟩
  | .dct true ks ds, v, o, h, ho => by
    obtain ⟨a, vs, e, q, eo, l, r⟩ := h
    subst eo
    exact ⟨a, vs, e, (ho a List.mem_cons_self).trans q, rfl, l, RepL.keep k ds vs [] r fun _ z => nomatch z⟩
  | .dct false ks ds, v, o, h, ho => by
    obtain ⟨a, vs, e, q, eo, l, r⟩ := h
    exact ⟨a, vs, e, k.fzD q, eo, l, RepL.keep k ds vs [] r fun _ z => nomatch z⟩
  | .ref n, v, o, h, _ => by
    obtain ⟨a, q, e, eo⟩ := h
    exact ⟨a, k.ref q, e, eo⟩
  | .exn _ _, _, _, h, _ => h.elim
theorem RepL.keep (k : Kp s s') : ∀ (ds : List D) (vs : List V) (o : List Addr), RepL K w s ds vs o → (∀ a ∈ o, s'.H a = s.H a) → RepL K w s' ds vs o
  | [], _, _, h, _ => h
  | d :: ds, vs, o, h, ho => by
    obtain ⟨v, vs', o1, o2, e, eo, r1, r2⟩ := h
    subst eo
    exact ⟨v, vs', o1, o2, e, rfl, Rep.keep k d v o1 r1 fun a ha => ho a (List.mem_append_left _ ha), RepL.keep k ds vs' o2 r2 fun a ha => ho a (List.mem_append_right _ ha)⟩
end
theorem RepL.len : ∀ {ds : List D} {vs : List V} {o : List Addr}, RepL K w s ds vs o → ds.length = vs.length
  | [], _, _, h => by
    have e := h.1
    rw [e]
    rfl
  | d :: ds, vs, o, h => by
    obtain ⟨v, vs', o1, o2, e, eo, r1, r2⟩ := h
    rw [e, List.length_cons, List.length_cons, RepL.len r2]
theorem RepL.nil_of {vs : List V} {o : List Addr} (h : RepL K w s [] vs o) : vs = [] ∧ o = [] := h
theorem RepL.append : ∀ {ds es : List D} {vs us : List V} {o p : List Addr}, RepL K w s ds vs o → RepL K w s es us p → RepL K w s (ds ++ es) (vs ++ us) (o ++ p)
  | [], _, _, _, _, _, h, q => by
    obtain ⟨rfl, rfl⟩ := h
    exact q
  | d :: ds, es, vs, us, o, p, h, q => by
    obtain ⟨v, vs', o1, o2, e, eo, r1, r2⟩ := h
    subst e eo
    exact ⟨v, vs' ++ us, o1, o2 ++ p, rfl, by rw [List.append_assoc], r1, RepL.append r2 q⟩
theorem RepL.at_ : ∀ {ds : List D} {vs : List V} {i : Nat} {d : D}, RepL K w s ds vs [] → ds[i]? = some d → ∃ v, vs[i]? = some v ∧ Rep K w s d v []
  | [], _, _, _, _, e => by simp at e
  | d :: ds, vs, 0, d', h, e => by
    obtain ⟨v, vs', o1, o2, ev, eo, r1, r2⟩ := h
    obtain ⟨rfl, rfl⟩ := List.append_eq_nil_iff.mp eo.symm
    simp at e
    subst e ev
    exact ⟨v, rfl, r1⟩
  | d :: ds, vs, i + 1, d', h, e => by
    obtain ⟨v, vs', o1, o2, ev, eo, r1, r2⟩ := h
    obtain ⟨rfl, rfl⟩ := List.append_eq_nil_iff.mp eo.symm
    subst ev
    obtain ⟨u, h1, h2⟩ := RepL.at_ (i := i) r2 (by simpa using e)
    exact ⟨u, by simpa using h1, h2⟩
theorem RepL.cons_of {d : D} {ds : List D} {vs : List V} (h : RepL K w s (d :: ds) vs []) : ∃ v vs', vs = v :: vs' ∧ Rep K w s d v [] ∧ RepL K w s ds vs' [] := by
  obtain ⟨v, vs', o1, o2, ev, eo, r1, r2⟩ := h
  obtain ⟨rfl, rfl⟩ := List.append_eq_nil_iff.mp eo.symm
  exact ⟨v, vs', ev, r1, r2⟩
theorem RepL.cons {d : D} {ds : List D} {v : V} {vs : List V} (h : Rep K w s d v []) (q : RepL K w s ds vs []) : RepL K w s (d :: ds) (v :: vs) [] := ⟨v, vs, [], [], rfl, rfl, h, q⟩
/-! the bits are none: nothing is owned -/
mutual
theorem Rep.nb : ∀ (d : D) (v : V) (o : List Addr), Rep K w s d v o → d.nb = true → o = []
  | .non, _, _, h, _ => h.2
  | .bl _, _, _, h, _ => h.2
  | .int _, _, _, h, _ => h.2
  | .str _, _, _, h, _ => h.2
  | .tup ds, v, o, h, n => by
    obtain ⟨a, vs, e, q, r⟩ := h
    exact RepL.nb ds vs o r n
  | .lst true ds, v, o, h, n => by simp [D.nb] at n
  | .lst false ds, v, o, h, n => by
    obtain ⟨a, vs, e, q, eo, r⟩ := h
    exact eo
  | .dct true ks ds, v, o, h, n => by simp [D.nb] at n
  | .dct false ks ds, v, o, h, n => by
    obtain ⟨a, vs, e, q, eo, l, r⟩ := h
    exact eo
  | .ref n, v, o, h, _ => by
    obtain ⟨a, q, e, eo⟩ := h
    exact eo
  | .exn _ _, _, _, h, _ => h.elim
theorem RepL.nb : ∀ (ds : List D) (vs : List V) (o : List Addr), RepL K w s ds vs o → D.nbL ds = true → o = []
  | [], _, _, h, _ => h.2
  | d :: ds, vs, o, h, n => by
    obtain ⟨v, vs', o1, o2, e, eo, r1, r2⟩ := h
    have n' : (d.nb && D.nbL ds) = true := n
    obtain ⟨n1, n2⟩ := Bool.and_eq_true_iff.mp n'
    rw [eo, Rep.nb d v o1 r1 n1, RepL.nb ds vs' o2 r2 n2]
    rfl
end
/-- it is frozen: what it owned may be written no more -/
def Sx.less (s : Sx) (o : List Addr) : Sx := { s with O := fun a => s.O a ∧ a ∉ o }
theorem FzL.less {o : List Addr} {a : Addr} {vs : List V} (h : FzL K s a vs) : FzL K (s.less o) a vs := h.imp (fun h => ⟨h.1, fun q => h.2 q.1⟩) id
theorem FzD.less {o : List Addr} {a : Addr} {ks : List Key} {vs : List V} (h : FzD K w s a ks vs) : FzD K w (s.less o) a ks vs := by
  rcases h with ⟨h, n⟩ | h
  · exact .inl ⟨h, fun q => n q.1⟩
  · exact .inr h
mutual
theorem Rep.fz {p : List Addr} : ∀ (d : D) (v : V) (o : List Addr), Rep K w s d v o → (∀ a ∈ o, a ∈ p) → Rep K w (s.less p) d.fz v []
  | .non, _, _, h, _ => ⟨h.1, rfl⟩
  | .bl _, _, _, h, _ => ⟨h.1, rfl⟩
  | .int _, _, _, h, _ => ⟨h.1, rfl⟩
  | .str _, _, _, h, _ => ⟨h.1, rfl⟩
  | .tup ds, v, o, h, ho => by
    obtain ⟨a, vs, e, q, r⟩ := h
    exact ⟨a, vs, e, q, RepL.fz ds vs o r ho⟩
  | .lst true ds, v, o, h, ho => by
    obtain ⟨a, vs, o', e, q, eo, r⟩ := h
    subst eo
    exact ⟨a, vs, e, .inl ⟨.inl q, fun z => z.2 (ho a List.mem_cons_self)⟩, rfl, RepL.fz ds vs o' r fun b hb => ho b (List.mem_cons_of_mem _ hb)⟩
  | .lst false ds, v, o, h, ho => by
    obtain ⟨a, vs, e, q, eo, r⟩ := h
    exact ⟨a, vs, e, q.less, rfl, RepL.fz ds vs [] r fun _ z => nomatch z⟩
  | .dct true ks ds, v, o, h, ho => by
    obtain ⟨a, vs, e, q, eo, l, r⟩ := h
    subst eo
    refine ⟨a, vs, e, .inl ⟨.inl q, fun z => z.2 (ho a List.mem_cons_self)⟩, rfl, ?_, RepL.fz ds vs [] r fun _ z => nomatch z⟩
    rw [l, (RepL.fz (p := p) ds vs [] r fun _ z => nomatch z).len, r.len]
  | .dct false ks ds, v, o, h, ho => by
    obtain ⟨a, vs, e, q, eo, l, r⟩ := h
    refine ⟨a, vs, e, q.less, rfl, ?_, RepL.fz ds vs [] r fun _ z => nomatch z⟩
    rw [l, (RepL.fz (p := p) ds vs [] r fun _ z => nomatch z).len, r.len]
  | .ref n, v, o, h, _ => by
    obtain ⟨a, q, e, eo⟩ := h
    exact ⟨a, q, e, rfl⟩
  | .exn _ _, _, _, h, _ => h.elim
theorem RepL.fz {p : List Addr} : ∀ (ds : List D) (vs : List V) (o : List Addr), RepL K w s ds vs o → (∀ a ∈ o, a ∈ p) → RepL K w (s.less p) (D.fzL ds) vs []
  | [], _, _, h, _ => ⟨h.1, rfl⟩
  | d :: ds, vs, o, h, ho => by
    obtain ⟨v, vs', o1, o2, e, eo, r1, r2⟩ := h
    subst eo
    exact ⟨v, vs', [], [], e, rfl, Rep.fz d v o1 r1 fun a ha => ho a (List.mem_append_left _ ha), RepL.fz ds vs' o2 r2 fun a ha => ho a (List.mem_append_right _ ha)⟩
end
theorem FzL.rd {a : Addr} {vs : List V} (h : FzL K s a vs) (sub : ∀ a ∈ s.ι, s.O a) : RdL K s a vs := h.imp (fun h => ⟨h.1, fun q => h.2 (sub a q)⟩) id
/-- a frozen value is an operand -/
theorem Rep.opd {d : D} {v : V} (h : Rep K w s d v []) (sub : ∀ a ∈ s.ι, s.O a) : RepB K w s d v := by
  cases d with
  | lst b ds =>
    cases b with
    | true => obtain ⟨a, vs, o', e, q, eo, r⟩ := h; cases eo
    | false => obtain ⟨a, vs, e, q, eo, r⟩ := h; exact ⟨a, vs, e, q.rd sub, r⟩
  | dct b ks ds =>
    cases b with
    | true => obtain ⟨a, vs, e, q, eo, l, r⟩ := h; cases eo
    | false => exact h
  | _ => exact h
/-- an owned or frozen value whose parts are frozen is an operand -/
theorem Rep.opdB {d : D} {v : V} {o : List Addr} (h : Rep K w s d v o) (n : d.inb = true) (sub : ∀ a ∈ s.ι, s.O a) (ho : ∀ a ∈ o, a ∉ s.ι) : RepB K w s d v := by
  cases d with
  | lst b ds =>
    cases b with
    | true =>
      obtain ⟨a, vs, o', e, q, eo, r⟩ := h
      subst eo
      have := RepL.nb ds vs o' r n
      subst this
      exact ⟨a, vs, e, .inl ⟨.inl q, ho a List.mem_cons_self⟩, r⟩
    | false => obtain ⟨a, vs, e, q, eo, r⟩ := h; exact ⟨a, vs, e, q.rd sub, r⟩
  | dct b ks ds =>
    cases b with
    | true =>
      obtain ⟨a, vs, e, q, eo, l, r⟩ := h
      subst eo
      exact ⟨a, vs, e, ⟨.inl q, ho a List.mem_cons_self⟩, l, r⟩
    | false =>
      obtain ⟨a, vs, e, q, eo, l, r⟩ := h
      exact ⟨a, vs, e, q, rfl, l, r⟩
  | tup ds =>
    have := Rep.nb _ v o h n
    subst this
    exact h
  | non => have := Rep.nb _ v o h n; subst this; exact h
  | bl _ => have := Rep.nb _ v o h n; subst this; exact h
  | int _ => have := Rep.nb _ v o h n; subst this; exact h
  | str _ => have := Rep.nb _ v o h n; subst this; exact h
  | ref _ => have := Rep.nb _ v o h n; subst this; exact h
  | exn _ _ => exact h.elim
end
end Vf

/-! V2 -/
set_option autoImplicit false
set_option linter.all false
set_option Elab.async false
set_option maxHeartbeats 1000000
/-! V2: how the heap goes on; readings by the evaluator. -/
namespace Vf
open PySem PySem.Spec PyProof.Rows L2

/-- the heap goes on: what is tracked stays, but the shared objects -/
structure Ev (s s' : Sx) : Prop where
  ext : ∀ a u, s.H a = some u → a ∉ s.ι → s'.H a = some u
  pre : ∃ t, s'.ι = s.ι ++ t ∧ ∀ a ∈ t, s.H a = none
  up : ∀ a, s.O a → s'.O a
  dn : ∀ a, s'.O a → s.O a ∨ s.H a = none
  live : ∀ a, s'.H a = none → s.H a = none
theorem Ev.refl (s : Sx) : Ev s s := ⟨fun _ _ h _ => h, ⟨[], by simp, fun _ z => nomatch z⟩, fun _ h => h, fun _ h => .inl h, fun _ h => h⟩
theorem Ev.trans {s s1 s2 : Sx} (a : Ev s s1) (b : Ev s1 s2) : Ev s s2 := by
  obtain ⟨t, e, f⟩ := a.pre
  obtain ⟨t', e', f'⟩ := b.pre
  refine ⟨fun x u h n => b.ext x u (a.ext x u h n) fun q => ?_, ⟨t ++ t', by rw [e', e, List.append_assoc], fun x hx => ?_⟩, fun x h => b.up x (a.up x h), fun x h => ?_, fun x h => a.live x (b.live x h)⟩
  · rw [e] at q
    rcases List.mem_append.mp q with q | q
    · exact n q
    · rw [f x q] at h; cases h
  · rcases List.mem_append.mp hx with q | q
    · exact f x q
    · exact a.live x (f' x q)
  · rcases b.dn x h with q | q
    · exact a.dn x q
    · exact .inr (a.live x q)

section
variable (K : PySem.W.Frag) (w : World)
/-- the world: what may be written is a list or the like; the shared objects are as told -/
structure Wd (s : Sx) (μ : Sto) : Prop where
  mt : ∀ a, s.O a → Mut (s.H a)
  sub : ∀ a ∈ s.ι, s.O a
  nd : s.ι.Nodup
  len : s.ι.length = μ.length
  at_ : ∀ (n : Nat) (a : Addr) (ds : List D), s.ι[n]? = some a → μ[n]? = some ds → ∃ vs, s.H a = some (.lst vs) ∧ RepL K w s ds vs []
/-- a caught exception, at a; its class, its fields, its dict -/
structure XH where
  a : Addr
  c : Str
  fs : List D
  ns : List Str
  dd : Option Addr
def XFld (s : Sx) (h : XH) : Prop := h.ns = [] ∨ ∃ d fv vs, h.dd = some d ∧ s.H d = some (.xd fv) ∧ RepL K w s h.fs vs [] ∧ ∀ (i : Nat) (f : Str) (v : V), h.ns[i]? = some f → vs[i]? = some v → fv.lookup f = some v
/-- what stands in a slot -/
def RepX (xh : Option XH) (s : Sx) (d : D) (v : V) (o : List Addr) : Prop := match d with
  | .exn c fs => ∃ h, xh = some h ∧ v = .ref h.a ∧ o = [] ∧ h.c = c ∧ h.fs = fs ∧ XFld K w s h
  | d => Rep K w s d v o
/-- the slots -/
structure RepS (xh : Option XH) (s : Sx) (ρ : Env) (σ : L2.St) (own : Nat → List Addr) : Prop where
  at_ : ∀ (i : Nat) (d : D), ρ[i]? = some (some d) → ∃ v, σ[i]? = some (some v) ∧ RepX K w xh s d v (own i)
  ow : ∀ (i : Nat) (a : Addr), a ∈ own i → s.O a ∧ a ∉ s.ι
  nd : ∀ i : Nat, (own i).Nodup
  ap : ∀ (i j : Nat) (a : Addr), i ≠ j → a ∈ own i → a ∉ own j
  len : ρ.length = σ.length
/-- behind an expression -/
structure Post (s s' : Sx) (μ : Sto) (d : D) (v : V) (o : List Addr) : Prop where
  ev : Ev s s'
  wd : Wd K w s' μ
  rep : Rep K w s' d v o
  nd : o.Nodup
  ow : ∀ a ∈ o, s'.O a ∧ ¬ s.O a ∧ a ∉ s'.ι
structure PostB (s s' : Sx) (μ : Sto) (d : D) (v : V) : Prop where
  ev : Ev s s'
  wd : Wd K w s' μ
  rep : RepB K w s' d v
end
section
variable {K : PySem.W.Frag} {w : World} {s s' : Sx} {μ μ' : Sto}
theorem Ev.kp (e : Ev s s') (W : Wd K w s μ) : Kp s s' := ⟨W.mt, fun a u h n => e.ext a u h fun q => n (W.sub a q), e.dn, e.pre⟩
theorem Ev.rdL (e : Ev s s') {a : Addr} {vs : List V} (h : RdL K s a vs) : RdL K s' a vs := by
  refine h.imp (fun h => ?_) id
  obtain ⟨h, n⟩ := h
  obtain ⟨t, et, ft⟩ := e.pre
  have key : ∀ u, s.H a = some u → s'.H a = some u ∧ a ∉ s'.ι := fun u hu => ⟨e.ext a u hu n, fun q => by
    rw [et] at q
    rcases List.mem_append.mp q with q | q
    · exact n q
    · rw [ft a q] at hu; cases hu⟩
  rcases h with h | ⟨o, h⟩
  · exact ⟨.inl (key _ h).1, (key _ h).2⟩
  · exact ⟨.inr ⟨o, (key _ h).1⟩, (key _ h).2⟩
theorem Ev.rdD (e : Ev s s') {a : Addr} {ks : List Key} {vs : List V} (h : RdD s a ks vs) : RdD s' a ks vs := by
  obtain ⟨h, n⟩ := h
  obtain ⟨t, et, ft⟩ := e.pre
  have key : ∀ u, s.H a = some u → s'.H a = some u ∧ a ∉ s'.ι := fun u hu => ⟨e.ext a u hu n, fun q => by
    rw [et] at q
    rcases List.mem_append.mp q with q | q
    · exact n q
    · rw [ft a q] at hu; cases hu⟩
  rcases h with h | ⟨o, h⟩
  · exact ⟨.inl (key _ h).1, (key _ h).2⟩
  · exact ⟨.inr ⟨o, (key _ h).1⟩, (key _ h).2⟩
theorem Ev.repL (e : Ev s s') (W : Wd K w s μ) {ds : List D} {vs : List V} (h : RepL K w s ds vs []) : RepL K w s' ds vs [] := RepL.keep (e.kp W) ds vs [] h fun _ z => nomatch z
theorem Ev.rep0 (e : Ev s s') (W : Wd K w s μ) {d : D} {v : V} (h : Rep K w s d v []) : Rep K w s' d v [] := Rep.keep (e.kp W) d v [] h fun _ z => nomatch z
theorem Ev.own {o : List Addr} (e : Ev s s') (ho : ∀ a ∈ o, Mut (s.H a) ∧ a ∉ s.ι) : ∀ a ∈ o, s'.H a = s.H a := fun a ha => by
  obtain ⟨m, n⟩ := ho a ha
  cases q : s.H a with
  | none => rw [q] at m; exact m.elim
  | some u => exact e.ext a u q n
theorem Ev.rep (e : Ev s s') (W : Wd K w s μ) {d : D} {v : V} {o : List Addr} (h : Rep K w s d v o) (ho : ∀ a ∈ o, s.O a ∧ a ∉ s.ι) : Rep K w s' d v o :=
  Rep.keep (e.kp W) d v o h (e.own fun a ha => ⟨W.mt a (ho a ha).1, (ho a ha).2⟩)
theorem Ev.repLo (e : Ev s s') (W : Wd K w s μ) {d : List D} {v : List V} {o : List Addr} (h : RepL K w s d v o) (ho : ∀ a ∈ o, s.O a ∧ a ∉ s.ι) : RepL K w s' d v o :=
  RepL.keep (e.kp W) d v o h (e.own fun a ha => ⟨W.mt a (ho a ha).1, (ho a ha).2⟩)
theorem Ev.repB (e : Ev s s') (W : Wd K w s μ) {d : D} {v : V} (h : RepB K w s d v) : RepB K w s' d v := by
  cases d with
  | lst b ds => obtain ⟨a, vs, ev, q, r⟩ := h; exact ⟨a, vs, ev, e.rdL q, e.repL W r⟩
  | dct b ks ds =>
    cases b with
    | true => obtain ⟨a, vs, ev, q, l, r⟩ := h; exact ⟨a, vs, ev, e.rdD q, l, e.repL W r⟩
    | false => exact e.rep0 W h
  | _ => exact e.rep0 W h
theorem Ev.noIn (e : Ev s s') {a : Addr} (h : s.H a ≠ none) (n : a ∉ s.ι) : a ∉ s'.ι := fun q => by
  obtain ⟨t, et, ft⟩ := e.pre
  rw [et] at q
  rcases List.mem_append.mp q with q | q
  · exact n q
  · exact h (ft a q)
theorem mut_ne {o : Option HO} (h : Mut o) : o ≠ none := fun z => by rw [z] at h; exact h
theorem Ev.ownS (e : Ev s s') (W : Wd K w s μ) {o : List Addr} (ho : ∀ a ∈ o, s.O a ∧ a ∉ s.ι) : ∀ a ∈ o, s'.O a ∧ a ∉ s'.ι := fun a ha =>
  ⟨e.up a (ho a ha).1, e.noIn (mut_ne (W.mt a (ho a ha).1)) (ho a ha).2⟩
theorem RepX.of {xh : Option XH} {d : D} {v : V} {o : List Addr} (h : Rep K w s d v o) : RepX K w xh s d v o := by
  cases d with
  | exn c fs => exact h.elim
  | _ => exact h
theorem RepX.rep {xh : Option XH} {d : D} {v : V} {o : List Addr} (h : RepX K w xh s d v o) (n : ∀ c fs, d ≠ .exn c fs) : Rep K w s d v o := by
  cases d with
  | exn c fs => exact absurd rfl (n c fs)
  | _ => exact h
theorem RepX.nbR {xh : Option XH} {d : D} {v : V} {o : List Addr} (h : RepX K w xh s d v o) (n : d.nb = true) : Rep K w s d v o := h.rep fun c fs e => by rw [e] at n; cases n
theorem RepX.inbR {xh : Option XH} {d : D} {v : V} {o : List Addr} (h : RepX K w xh s d v o) (n : d.inb = true) : Rep K w s d v o := h.rep fun c fs e => by rw [e] at n; cases n
theorem XFld.keep {h : XH} (k : Kp s s') (f : XFld K w s h) : XFld K w s' h := by
  rcases f with f | ⟨d, fv, vs, e, q, r, l⟩
  · exact .inl f
  · exact .inr ⟨d, fv, vs, e, k.ext _ _ q fun z => by have := k.mt d z; rw [q] at this; exact this, RepL.keep k _ _ _ r (fun _ z => nomatch z), l⟩
theorem RepX.keep (k : Kp s s') {xh : Option XH} {d : D} {v : V} {o : List Addr} (h : RepX K w xh s d v o) (ho : ∀ a ∈ o, s'.H a = s.H a) : RepX K w xh s' d v o := by
  cases d with
  | exn c fs =>
    obtain ⟨h, a, b, c', d, e, f⟩ := h
    exact ⟨h, a, b, c', d, e, f.keep k⟩
  | _ => exact Rep.keep k _ _ _ h ho
theorem RepS.step {xh : Option XH} {ρ : Env} {σ : L2.St} {own : Nat → List Addr} (r : RepS K w xh s ρ σ own) (e : Ev s s') (W : Wd K w s μ) : RepS K w xh s' ρ σ own :=
  ⟨fun i d h => by
    obtain ⟨v, h1, h2⟩ := r.at_ i d h
    exact ⟨v, h1, RepX.keep (e.kp W) h2 (e.own fun a ha => ⟨W.mt a (r.ow i a ha).1, (r.ow i a ha).2⟩)⟩, fun i a ha => e.ownS W (fun b hb => r.ow i b hb) a ha, r.nd, r.ap, r.len⟩
/-- what was owned is frozen -/
theorem Wd.less {o : List Addr} (W : Wd K w s μ) (ho : ∀ a ∈ o, a ∉ s.ι) : Wd K w (s.less o) μ := by
  have k : Kp s (s.less o) := ⟨W.mt, fun _ _ h _ => h, fun a h => .inl h.1, ⟨[], by simp [Sx.less], fun _ z => nomatch z⟩⟩
  exact ⟨fun a h => W.mt a h.1, fun a h => ⟨W.sub a h, fun q => ho a q h⟩, W.nd, W.len, fun n a ds h1 h2 => by
    obtain ⟨vs, h3, h4⟩ := W.at_ n a ds h1 h2
    exact ⟨vs, h3, RepL.keep k ds vs [] h4 fun _ z => nomatch z⟩⟩
theorem Ev.less {o : List Addr} (e : Ev s s') (ho : ∀ a ∈ o, ¬ s.O a) : Ev s (s'.less o) := ⟨e.ext, e.pre, fun a h => ⟨e.up a h, fun q => ho a q h⟩, fun a h => e.dn a h.1, e.live⟩
theorem Post.toB {d : D} {v : V} {o : List Addr} (p : Post K w s s' μ d v o) : PostB K w s (s'.less o) μ d.fz v := by
  have W := p.wd.less fun a ha => (p.ow a ha).2.2
  exact ⟨p.ev.less fun a ha => (p.ow a ha).2.1, W, Rep.opd (Rep.fz d v o p.rep fun a ha => ha) W.sub⟩
end

/-! ### the context -/
structure Ctx where
  X : Cx
  W : WX
  Φ : Cfg
  s0 : Sx
  /-- the fields of an exception's class -/
  cls : Str → Option (List Str)
  xh : Option XH
abbrev Ctx.K (C : Ctx) : PySem.W.Frag := C.X.K
abbrev Ctx.w (C : Ctx) : World := C.X.w
/-- an exception of the class c, with these fields -/
def XRep (K : PySem.W.Frag) (w : World) (mg : Str → Option Value) (cls : Str → Option (List Str)) (s : Sx) (c : Str) (fs : List D) (Cl : Value) (dd : Option Addr) : Prop :=
  ∃ Ca ns, Cl = .ref Ca ∧ mg c = some (.ref Ca) ∧ cls c = some ns ∧ ns.length = fs.length ∧ (ns = [] → dd = none) ∧
    (ns ≠ [] → ∃ d fv, dd = some d ∧ s.H d = some (.xd fv) ∧ ∀ (i : Nat) (f : Str) (x : D), ns[i]? = some f → fs[i]? = some x → ∃ v, fv.lookup f = some v ∧ Rep K w s x v [])
def XRes (C : Ctx) (σ : L2.St) (c : Str) (fs : List D) (μ : Sto) : Prop :=
  ∀ s' Cl dd, Ev C.s0 s' → Wd C.K C.w s' μ → XRep C.K C.w C.X.mg C.cls s' c fs Cl dd → C.W Cl dd σ s'.H
structure Pre (C : Ctx) (s : Sx) (ρ : Env) (σ : L2.St) (own : Nat → List Addr) (μ : Sto) : Prop where
  r : RepS C.K C.w C.xh s ρ σ own
  wd : Wd C.K C.w s μ
  ev : Ev C.s0 s
  fr : ∀ i a, a ∈ own i → ¬ C.s0.O a
theorem Pre.step {C : Ctx} {s s' : Sx} {ρ : Env} {σ : L2.St} {own : Nat → List Addr} {μ μ' : Sto} (p : Pre C s ρ σ own μ) (e : Ev s s') (W : Wd C.K C.w s' μ') : Pre C s' ρ σ own μ' :=
  ⟨p.r.step e p.wd, W, p.ev.trans e, p.fr⟩
def ResG {α : Type} (C : Ctx) (σ : L2.St) (r : R α) (F : α → Sto → Prop) : Prop := match r with
  | .ok a μ => F a μ
  | .exc c fs μ => XRes C σ c fs μ
  | .bad => False
section
variable {C : Ctx} {σ : L2.St} {α β : Type} {μ : Sto}
theorem ResG.bind {m : M α} {k : α → M β} {F : β → Sto → Prop} (h : ResG C σ (M.bind m k μ) F) : ResG C σ (m μ) fun a μ1 => ResG C σ (k a μ1) F := by
  unfold M.bind at h
  cases e : m μ with
  | ok a μ1 => rw [e] at h; exact h
  | exc c fs μ1 => rw [e] at h; exact h
  | bad => rw [e] at h; exact h.elim
theorem ResG.mono {r : R α} {F F' : α → Sto → Prop} (h : ResG C σ r F) (k : ∀ a μ, F a μ → F' a μ) : ResG C σ r F' := by
  cases r with
  | ok a μ1 => exact k a μ1 h
  | exc c fs μ1 => exact h
  | bad => exact h.elim
theorem ResG.guard {b : Bool} {m : M α} {F : α → Sto → Prop} (h : ResG C σ (guard' b m μ) F) : b = true ∧ ResG C σ (m μ) F := by
  cases b with
  | true => exact ⟨rfl, h⟩
  | false => exact h.elim
theorem ResG.ret {a : α} {F : α → Sto → Prop} (h : ResG C σ (M.ret a μ) F) : F a μ := h
theorem ResG.ofO {o : Option α} {F : α → Sto → Prop} (h : ResG C σ (ofO o μ) F) : ∃ a, o = some a ∧ F a μ := by
  cases o with
  | none => exact h.elim
  | some a => exact ⟨a, rfl, h⟩
end
def tD (C : Ctx) (f : Env → M D) : TE := fun σ H Q => ∃ s ρ own μ, s.H = H ∧ Pre C s ρ σ own μ ∧ ResG C σ (f ρ μ) fun d μ' => ∀ v s' o, Post C.K C.w s s' μ' d v o → Q v s'.H
def tDB (C : Ctx) (f : Env → M D) : TE := fun σ H Q => ∃ s ρ own μ, s.H = H ∧ Pre C s ρ σ own μ ∧ ResG C σ (f ρ μ) fun d μ' => ∀ v s', PostB C.K C.w s s' μ' d v → Q v s'.H
def tDT (C : Ctx) (f : Env → M Bool) : TT := fun σ H Q => ∃ s ρ own μ, s.H = H ∧ Pre C s ρ σ own μ ∧ ResG C σ (f ρ μ) fun b μ' => ∀ s', Ev s s' → Wd C.K C.w s' μ' → Q b s'.H
def tDA (C : Ctx) (f : Env → M (List D)) : TA := fun σ H Q => ∃ s ρ own μ, s.H = H ∧ Pre C s ρ σ own μ ∧ ResG C σ (f ρ μ) fun ds μ' => ∀ vs s' o, Ev s s' → Wd C.K C.w s' μ' → RepL C.K C.w s' ds vs o → o.Nodup → (∀ a ∈ o, s'.O a ∧ ¬ s.O a ∧ a ∉ s'.ι) → Q vs s'.H
abbrev OkE (C : Ctx) (e : Expr) (f : Env → M D) : Prop := PE C.X e (tD C f)
abbrev OkB (C : Ctx) (e : Expr) (f : Env → M D) : Prop := PE C.X e (tDB C f)
abbrev OkT (C : Ctx) (e : Expr) (f : Env → M Bool) : Prop := PT C.X e (tDT C f)
abbrev OkA (C : Ctx) (es : List Expr) (f : Env → M (List D)) : Prop := PA C.X es (tDA C f)
theorem PE_imp {X : Cx} {e : Expr} {t t' : TE} (h : PE X e t) (i : ∀ σ H Q, t' σ H Q → t σ H Q) : PE X e t' := ⟨fun pins s σ H Q I q => h.run pins s σ H Q I (i σ H Q q)⟩
theorem PT_imp {X : Cx} {e : Expr} {t t' : TT} (h : PT X e t) (i : ∀ σ H Q, t' σ H Q → t σ H Q) : PT X e t' := ⟨fun pins s σ H Q I q => h.run pins s σ H Q I (i σ H Q q)⟩
theorem PA_imp {X : Cx} {e : List Expr} {t t' : TA} (h : PA X e t) (i : ∀ σ H Q, t' σ H Q → t σ H Q) : PA X e t' := ⟨fun pos pins s σ H Q I q => h.run pos pins s σ H Q I (i σ H Q q)⟩
theorem PS_imp {X : Cx} {e : Stmt} {t t' : TS} (h : PS X e t) (i : ∀ D σ H, t' D σ H → t D σ H) : PS X e t' := ⟨fun pins s σ H D I q => h.run pins s σ H D I (i D σ H q)⟩
theorem PSs_imp {X : Cx} {e : List Stmt} {t t' : TS} (h : PSs X e t) (i : ∀ D σ H, t' D σ H → t D σ H) : PSs X e t' := ⟨fun pins s σ H D I q => h.run pins s σ H D I (i D σ H q)⟩

section
variable {C : Ctx} {e a b : Expr} {f g : Env → M D}
/-- scalars -/
theorem Post.scal {K : PySem.W.Frag} {w : World} {s s' : Sx} {μ : Sto} {d : D} {v : V} (e : Ev s s') (W : Wd K w s' μ) (r : Rep K w s' d v []) : Post K w s s' μ d v [] :=
  ⟨e, W, r, List.nodup_nil, fun _ z => nomatch z⟩
theorem Post.tr {K : PySem.W.Frag} {w : World} {s s1 s' : Sx} {μ : Sto} {d : D} {v : V} {o : List Addr} (e : Ev s s1) (p : Post K w s1 s' μ d v o) : Post K w s s' μ d v o :=
  ⟨e.trans p.ev, p.wd, p.rep, p.nd, fun a h => ⟨(p.ow a h).1, fun q => (p.ow a h).2.1 (e.up a q), (p.ow a h).2.2⟩⟩
theorem PostB.tr {K : PySem.W.Frag} {w : World} {s s1 s' : Sx} {μ : Sto} {d : D} {v : V} (e : Ev s s1) (p : PostB K w s1 s' μ d v) : PostB K w s s' μ d v := ⟨e.trans p.ev, p.wd, p.rep⟩
/-- a value used as an operand -/
theorem ok_opnd (h : OkE C e f) : OkB C e (fun ρ => M.bind (f ρ) (opnd false)) := by
  refine PE_imp h fun σ H Q ⟨s, ρ, own, μ, e1, p, q⟩ => ⟨s, ρ, own, μ, e1, p, q.bind.mono fun d μ1 h v s1 o po => ?_⟩
  exact h.ret v (s1.less o) po.toB
/-- names -/
theorem ok_var {i : Nat} {x : Str} {pos : Pos} (hN : C.X.N[i]? = some x) (hv : Vis C.X.env.scope x) (hd : (x == ("__debug__" : Str)) = false) (hc : (x == ("__classdict__" : Str)) = false) : OkE C (.Name x pos) (fun ρ => match ρ[i]? with
    | some (some d) => guard' d.nb (M.ret d)
    | _ => M.bad) := by
  refine PE_imp (pe_var hN hv hd hc) fun σ H Q ⟨s, ρ, own, μ, e1, p, q⟩ => ?_
  cases h : ρ[i]? with
  | none => simp only [h] at q; exact q.elim
  | some od =>
    cases od with
    | none => simp only [h] at q; exact q.elim
    | some d =>
      simp only [h] at q
      obtain ⟨n, q⟩ := q.guard
      obtain ⟨v, hv, r⟩ := p.r.at_ i d h
      have r := r.nbR n
      have eo := Rep.nb _ _ _ r n
      rw [eo] at r
      exact ⟨v, hv, by rw [← e1]; exact q.ret v s [] (Post.scal (Ev.refl s) p.wd r)⟩
theorem ok_brw {i : Nat} {x : Str} {pos : Pos} (hN : C.X.N[i]? = some x) (hv : Vis C.X.env.scope x) (hd : (x == ("__debug__" : Str)) = false) (hc : (x == ("__classdict__" : Str)) = false) : OkB C (.Name x pos) (fun ρ => M.bind (match ρ[i]? with
    | some (some d) => M.ret d
    | _ => M.bad) (opnd true)) := by
  refine PE_imp (pe_var hN hv hd hc) fun σ H Q ⟨s, ρ, own, μ, e1, p, q⟩ => ?_
  cases h : ρ[i]? with
  | none => simp only [h] at q; exact q.elim
  | some od =>
    cases od with
    | none => simp only [h] at q; exact q.elim
    | some d =>
      simp only [h] at q
      obtain ⟨n, q⟩ := (q.bind.ret : ResG C σ (opnd true d μ) _).guard
      obtain ⟨v, hv, r⟩ := p.r.at_ i d h
      exact ⟨v, hv, by rw [← e1]; exact q.ret v s ⟨Ev.refl s, p.wd, (r.inbR n).opdB n p.wd.sub fun a ha => (p.r.ow i a ha).2⟩⟩
/-- constants -/
theorem ok_const {v : V} {d : D} (h : PE C.X e (tC v)) (r : ∀ s, Rep C.K C.w s d v []) : OkE C e (fun _ => M.ret d) :=
  PE_imp h fun σ H Q ⟨s, ρ, own, μ, e1, p, q⟩ => by
    show Q v H
    rw [← e1]
    exact q.ret v s [] (Post.scal (Ev.refl s) p.wd (r s))
/-- two operands -/
theorem tD_two {t t' : TE} {R : V → V → Hp → VK → Prop} (h : PE C.X e (tOp R t t')) (k : D → D → M D)
    (ht : ∀ σ H Q, tDB C f σ H Q → t σ H Q) (ht' : ∀ σ H Q, tDB C g σ H Q → t' σ H Q)
    (hk : ∀ σ s μ x y vx vy Q, Wd C.K C.w s μ → RepB C.K C.w s x vx → RepB C.K C.w s y vy → ResG C σ (k x y μ) (fun d μ' => ∀ v s' o, Post C.K C.w s s' μ' d v o → Q v s'.H) → R vx vy s.H Q) :
    OkE C e (fun ρ => M.bind (f ρ) fun x => M.bind (g ρ) fun y => k x y) := by
  refine PE_imp h fun σ H Q ⟨s, ρ, own, μ, e1, p, q⟩ => ?_
  refine ht _ _ _ ⟨s, ρ, own, μ, e1, p, q.bind.mono fun x μ1 h1 vx s1 p1 => ?_⟩
  refine ht' _ _ _ ⟨s1, ρ, own, μ1, rfl, p.step p1.ev p1.wd, h1.bind.mono fun y μ2 h2 vy s2 p2 => ?_⟩
  exact hk σ s2 μ2 x y vx vy Q p2.wd (p2.ev.repB p1.wd p1.rep) p2.rep (h2.mono fun d μ' h3 v s' o po => h3 v s' o (po.tr (p1.ev.trans p2.ev)))
theorem tD_one {t : TE} {R : V → Hp → VK → Prop} (h : PE C.X e (tUn R t)) (k : D → M D) (ht : ∀ σ H Q, tDB C f σ H Q → t σ H Q)
    (hk : ∀ σ s μ x vx Q, Wd C.K C.w s μ → RepB C.K C.w s x vx → ResG C σ (k x μ) (fun d μ' => ∀ v s' o, Post C.K C.w s s' μ' d v o → Q v s'.H) → R vx s.H Q) :
    OkE C e (fun ρ => M.bind (f ρ) fun x => k x) := by
  refine PE_imp h fun σ H Q ⟨s, ρ, own, μ, e1, p, q⟩ => ?_
  refine ht _ _ _ ⟨s, ρ, own, μ, e1, p, q.bind.mono fun x μ1 h1 vx s1 p1 => ?_⟩
  exact hk σ s1 μ1 x vx Q p1.wd p1.rep (h1.mono fun d μ' h3 v s' o po => h3 v s' o (po.tr p1.ev))
end
end Vf

/-! V3 -/
set_option autoImplicit false
set_option linter.all false
set_option Elab.async false
set_option maxHeartbeats 1000000
/-! V3: the operations. -/
namespace Vf
open PySem PySem.Spec PyProof.Rows L2

theorem line_eq : LINE = sizeLine := sizeLine_eq.symm
/-! ### new objects -/
section
variable {K : PySem.W.Frag} {w : World} {s s1 : Sx} {μ : Sto} {ds : List D} {vs : List V} {o : List Addr} {p : Addr}
/-- a new tracked thing that may not be written -/
def Sx.tup (s : Sx) (p : Addr) (u : HO) : Sx := { s with H := upd s.H p u }
/-- a new owned thing -/
def Sx.own (s : Sx) (p : Addr) (u : HO) : Sx := { s with H := upd s.H p u, O := fun a => s.O a ∨ a = p }
theorem Ev.tup (h : s.H p = none) {u : HO} : Ev s (s.tup p u) :=
  ⟨fun a x q _ => by show upd s.H p u a = _; rw [upd_ne (ne_of_none q h)]; exact q, ⟨[], by simp [Sx.tup], fun _ z => nomatch z⟩, fun _ q => q, fun _ q => .inl q, fun a q => by
    have q' : upd s.H p u a = none := q
    by_cases e : a = p
    · rw [e, upd_same] at q'; cases q'
    · rw [upd_ne e] at q'; exact q'⟩
theorem Ev.ownN (h : s.H p = none) {u : HO} : Ev s (s.own p u) :=
  ⟨fun a x q _ => by show upd s.H p u a = _; rw [upd_ne (ne_of_none q h)]; exact q, ⟨[], by simp [Sx.own], fun _ z => nomatch z⟩, fun _ q => .inl q, fun a q => q.elim .inl fun e => .inr (by rw [e]; exact h), fun a q => by
    have q' : upd s.H p u a = none := q
    by_cases e : a = p
    · rw [e, upd_same] at q'; cases q'
    · rw [upd_ne e] at q'; exact q'⟩
theorem Wd.tup (W : Wd K w s μ) (h : s.H p = none) {u : HO} : Wd K w (s.tup p u) μ := by
  refine ⟨fun a q => ?_, W.sub, W.nd, W.len, fun n a ds h1 h2 => ?_⟩
  · have m := W.mt a q
    have e : a ≠ p := fun z => mut_ne m (by rw [z]; exact h)
    show Mut (upd s.H p u a)
    rw [upd_ne e]; exact m
  · obtain ⟨vs, h3, h4⟩ := W.at_ n a ds h1 h2
    exact ⟨vs, by show upd s.H p u a = _; rw [upd_ne (ne_of_none h3 h)]; exact h3, (Ev.tup h).repL W h4⟩
theorem Wd.ownN (W : Wd K w s μ) (h : s.H p = none) {u : HO} (mu : Mut (some u)) : Wd K w (s.own p u) μ := by
  refine ⟨fun a q => ?_, fun a q => .inl (W.sub a q), W.nd, W.len, fun n a ds h1 h2 => ?_⟩
  · show Mut (upd s.H p u a)
    by_cases e : a = p
    · rw [e, upd_same]; exact mu
    · rw [upd_ne e]
      rcases q with q | q
      · exact W.mt a q
      · exact absurd q e
  · obtain ⟨vs, h3, h4⟩ := W.at_ n a ds h1 h2
    exact ⟨vs, by show upd s.H p u a = _; rw [upd_ne (ne_of_none h3 h)]; exact h3, (Ev.ownN h).repL W h4⟩
theorem Post.newT (e : Ev s s1) (W : Wd K w s1 μ) (r : RepL K w s1 ds vs o) (nd : o.Nodup) (ow : ∀ a ∈ o, s1.O a ∧ ¬ s.O a ∧ a ∉ s1.ι) (h : s1.H p = none) :
    Post K w s (s1.tup p (.tup vs)) μ (.tup ds) (.ref p) o :=
  ⟨e.trans (Ev.tup h), W.tup h, ⟨p, vs, rfl, .of upd_same, (Ev.tup h).repLo W r fun a ha => ⟨(ow a ha).1, (ow a ha).2.2⟩⟩, nd, ow⟩
theorem Post.newL (e : Ev s s1) (W : Wd K w s1 μ) (r : RepL K w s1 ds vs o) (nd : o.Nodup) (ow : ∀ a ∈ o, s1.O a ∧ ¬ s.O a ∧ a ∉ s1.ι) (h : s1.H p = none) :
    Post K w s (s1.own p (.lst vs)) μ (.lst true ds) (.ref p) (p :: o) := by
  refine ⟨e.trans (Ev.ownN h), W.ownN h trivial, ⟨p, vs, o, rfl, upd_same, rfl, (Ev.ownN h).repLo W r fun a ha => ⟨(ow a ha).1, (ow a ha).2.2⟩⟩, List.nodup_cons.mpr ⟨fun q => mut_ne (W.mt p (ow p q).1) h, nd⟩, fun a ha => ?_⟩
  rcases List.mem_cons.mp ha with rfl | ha
  · refine ⟨.inr rfl, fun q => mut_ne (W.mt a (e.up a q)) h, fun q => mut_ne (W.mt a (W.sub a q)) h⟩
  · exact ⟨.inl (ow a ha).1, (ow a ha).2⟩
theorem Post.newD {ks : List Key} (e : Ev s s1) (W : Wd K w s1 μ) (l : ks.length = ds.length) (r : RepL K w s1 ds vs []) (h : s1.H p = none) :
    Post K w s (s1.own p (.dK (ks.zip vs))) μ (.dct true ks ds) (.ref p) [p] := by
  refine ⟨e.trans (Ev.ownN h), W.ownN h trivial, ⟨p, vs, rfl, upd_same, rfl, l, (Ev.ownN h).repL W r⟩, by simp, fun a ha => ?_⟩
  have e' : a = p := by simpa using ha
  subst e'
  exact ⟨.inr rfl, fun q => mut_ne (W.mt a (e.up a q)) h, fun q => mut_ne (W.mt a (W.sub a q)) h⟩
end

/-! ### list + list, tracked or known -/
def CatL (K : PySem.W.Frag) (H : Hp) (a : Addr) (xs : List V) : Prop := SqL K H a xs
theorem RdL.cat {K : PySem.W.Frag} {s : Sx} {a : Addr} {vs : List V} (h : RdL K s a vs) : CatL K s.H a vs := h.sq
def rCatR (K : PySem.W.Frag) : R2 := fun x y H Q => ∃ l b xs zs, x = .ref l ∧ y = .ref b ∧ CatL K H l xs ∧ CatL K H b zs ∧ xs.length + zs.length ≤ sizeLine ∧ ∀ p, H p = none → Q (.ref p) (upd H p (.lst (xs ++ zs)))
theorem op_catR {X : Cx} : OpR X (binaryOp .Add) (rCatR X.K) := by
  intro pins s σ H x y v u Q I rx ry h
  obtain ⟨l, b, xs, zs, rfl, rfl, hH, hB, hz, q⟩ := h
  cases rx
  cases ry
  obtain ⟨its, r, ⟨⟨cls, dd, data, sl⟩, n, e, hc, hd, hdat⟩, hl⟩ := I.list (show SqL X.K H l xs from hH)
  obtain ⟨its2, r2, ⟨⟨cls2, dd2, data2, sl2⟩, n2, e2, hc2, hd2, hdat2⟩, hl2⟩ := I.list (show SqL X.K H b zs from hB)
  simp only at hc hd hdat hc2 hd2 hdat2
  subst hc hdat hc2 hdat2
  have ln := r.length
  have ln2 := r2.length
  refine concat_meets ⟨_, e, rfl⟩ ⟨_, e2, rfl⟩ noFill_list_add seq_list_add PySem.F.slot_list_add PySem.F.entry_list_add (PySem.F.args_list_add_2 _ _) (list_addW l b its.toArray its2.toArray n n2 dd dd2 sl sl2 (by rw [List.size_toArray, List.size_toArray]; omega)) ⟨e, e2, ?_⟩
  have ea : its.toArray ++ its2.toArray = (its ++ its2).toArray := by simp
  rw [ea]
  exact ⟨.ref _, _, I.lnew (t' := s.toks) (r.append r2) (by rw [List.length_append]; omega), rfl, q _ I.fresh⟩

/-! ### list * int -/
theorem int_rmulW (a : Int) (t : Tok) (l : Addr) (items : Array Value) (n : Nat) (sl : Array (Option Value)) :
    Meets (Builtin.«int.__rmul__» ⟨[.int a t, .ref l], []⟩) (fun _ R s => s.heap.get? l = some { cls := .type "list", dict := none, data := .seq items n, slots := sl } ∧ R (.ok (.ret Value.notImplemented)) s) :=
  .of_wp fun prog w A R s h => by obtain ⟨hp, g, d, tk, os⟩ := s; obtain ⟨hl, h⟩ := h; wp_walk; exact ⟨_, rfl, h⟩
theorem list_mulW (l : Addr) (items : Array Value) (n : Nat) (x : Int) (u : Tok) (sl : Array (Option Value)) (hc0 : ¬(!Builtin.List.listFitsIndex x) = true) (hc1 : ¬items.size * x.toNat > (2 ^ 63 - 1) / 8) (hc2 : ¬Builtin.List.listTooLong (items.size * x.toNat) = true) :
    Meets (Builtin.«list.__mul__» ⟨[.ref l, .int x u], []⟩) (fun _ R s => s.heap.get? l = some { cls := .type "list", dict := none, data := .seq items n, slots := sl } ∧ R (.ok (.ret (Value.ref s.heap.objs.size))) { s with heap := s.heap.push { cls := Value.type "list", data := Data.seq (List.foldl (fun x1 x2 => x1 ++ x2) #[] (List.replicate (if items.isEmpty = true then 0 else x.toNat) items)) }, toks := s.toks }) :=
  .of_wp fun prog w A R s h => by
    obtain ⟨hp, g, d, tk, os⟩ := s; obtain ⟨hl, h⟩ := h
    have hsz := PySem.AutoListH.joined_fits hc2
    wp_walk using wpAny_loadPart' hl; refine wpAny_ite_false (decide_eq_false (Nat.not_lt.mpr hsz)) ?_; wp_walk using wpAny_loadPart' hl; exact ⟨_, rfl, h⟩
def rRepR (K : PySem.W.Frag) : R2 := fun x y H Q => ∃ l k xs, x = .ref l ∧ y = .int k ∧ SqL K H l xs ∧ -(2 ^ 63) ≤ k ∧ k < 2 ^ 63 ∧ xs.length * k.toNat ≤ sizeLine ∧
  ∀ p, H p = none → Q (.ref p) (upd H p (.lst (List.replicate k.toNat xs).flatten))
theorem op_repR {X : Cx} : OpR X (binaryOp .Mult) (rRepR X.K) := by
  intro pins s σ H x y v u Q I rx ry h
  obtain ⟨l, k, xs, rfl, rfl, hH, h1, h2, hz, q⟩ := h
  cases rx
  obtain ⟨t, rfl⟩ := ry
  obtain ⟨its, r, ⟨⟨cls, dd, data, sl⟩, n, e, hc, hd, hdat⟩, hl⟩ := I.list hH
  simp only at hc hd hdat
  subst hc hd hdat
  have hl' : xs.length = its.length := r.length
  have hlen : its.toArray.size * k.toNat ≤ sizeLine := by rw [List.size_toArray, ← hl']; exact hz
  have hcap : ¬ its.toArray.size * k.toNat > (2 ^ 63 - 1) / 8 := by
    have : (sizeLine : Nat) ≤ (2 ^ 63 - 1) / 8 := by decide
    omega
  have hfit : ¬ (!Builtin.List.listFitsIndex k) = true := by
    rw [fitsIndex_both h1 h2]
    exact Bool.false_ne_true
  have hlong : ¬ Builtin.List.listTooLong (its.toArray.size * k.toNat) = true := by
    rw [notLongL hlen]
    exact Bool.false_ne_true
  have hnew : List.foldl (fun x1 x2 => x1 ++ x2) #[] (List.replicate (if its.toArray.isEmpty = true then 0 else k.toNat) its.toArray) = (List.replicate k.toNat its).flatten.toArray := by
    have f0 : ∀ m : Nat, List.foldl (fun x1 x2 => x1 ++ x2) #[] (List.replicate m its.toArray) = (List.replicate m its).flatten.toArray := fun m => by
      have := foldl_rep its m []
      rw [List.nil_append] at this
      exact this
    rw [f0]
    cases its with
    | nil => simp
    | cons a r' => rw [if_neg (by simp)]
  refine wpAny_binaryOp_repeat_ref (T := "list") (U := "int") (by decide) ⟨_, e, rfl⟩ (fun s' => typeIs_int s' k t) noFill_list_mul F.fills_int_mul F.slot_int_rmul repeat_list F.slot_int_index.lookup
    (call_meets F.slot_int_rmul (typeIs_int s k t) F.entry_int_rmul (F.args_int_rmul_2 _ _) (int_rmulW k t l its.toArray n sl)
      ⟨e, rfl, ⟨_, e, rfl⟩, call_meets F.slot_list_mul ⟨_, e, rfl⟩ F.entry_list_mul (F.args_list_mul_2 _ _) (list_mulW l its.toArray n k t sl hfit hcap hlong) ⟨e, ?_⟩⟩)
  rw [hnew]
  exact ⟨.ref _, _, I.lnew (t' := s.toks) (r.rep k.toNat) (by rw [PyProof.Rows.lm_len_rep_flat, Nat.mul_comm]; exact hz), rfl, q _ I.fresh⟩
/-! ### what an operand is -/
section
variable {C : Ctx} {σ : L2.St} {s : Sx} {μ : Sto} {x y : D} {vx vy : V} {Q : VK}
theorem nil_post {d : D} {v : V} (W : Wd C.K C.w s μ) (r : Rep C.K C.w s d v []) (h : ∀ v s' o, Post C.K C.w s s' μ d v o → Q v s'.H) : Q v s.H := h v s [] (Post.scal (Ev.refl s) W r)
theorem kAdd (W : Wd C.K C.w s μ) (rx : RepB C.K C.w s x vx) (ry : RepB C.K C.w s y vy) (h : ResG C σ (binD .add x y μ) fun d μ' => ∀ v s' o, Post C.K C.w s s' μ' d v o → Q v s'.H) :
    (rI0 fun i j => .int (i + j)) vx vy s.H Q ∨ (∃ i j, vx = .str i ∧ vy = .str j ∧ i.length + j.length ≤ sizeLine ∧ Q (.str (i ++ j)) s.H) ∨ rCatA C.K vx vy s.H Q ∨ rCatR C.K vx vy s.H Q := by
  cases x with
  | int i =>
    cases y with
    | int j => exact .inl ⟨i, j, rx.1, ry.1, nil_post (d := .int (i + j)) W ⟨rfl, rfl⟩ h.ret⟩
    | _ => exact h.elim
  | str i =>
    cases y with
    | str j =>
      obtain ⟨g, h⟩ := h.guard
      exact .inr (.inl ⟨i, j, rx.1, ry.1, by rw [← line_eq]; exact of_decide_eq_true g, nil_post (d := .str (i ++ j)) W ⟨rfl, rfl⟩ h.ret⟩)
    | _ => exact h.elim
  | tup as =>
    cases y with
    | tup bs =>
      obtain ⟨g, h⟩ := (show ResG C σ (tTup (as ++ bs) μ) _ from h).guard
      obtain ⟨a, vs, ea, ha, ra⟩ := rx
      obtain ⟨b, us, eb, hb, rb⟩ := ry
      have l : vs.length + us.length ≤ sizeLine := by
        rw [← line_eq, ← ra.len, ← rb.len, ← List.length_append]; exact of_decide_eq_true g
      refine .inr (.inr (.inl ⟨a, b, vs, us, ea, eb, ha, hb, l, fun e => ?_, fun _ e => ?_, fun _ _ p hp => ?_⟩))
      · have z : as = [] := List.eq_nil_of_length_eq_zero (by rw [ra.len, e]; rfl)
        subst z
        exact nil_post (d := .tup bs) W ⟨b, us, rfl, hb, rb⟩ h.ret
      · have z : bs = [] := List.eq_nil_of_length_eq_zero (by rw [rb.len, e]; rfl)
        subst z
        rw [List.append_nil] at h
        exact nil_post (d := .tup as) W ⟨a, vs, rfl, ha, ra⟩ h.ret
      · exact h.ret (.ref p) (s.tup p (.tup (vs ++ us))) [] (Post.newT (Ev.refl s) W (ra.append rb) List.nodup_nil (fun _ z => nomatch z) hp)
    | _ => exact h.elim
  | lst b as =>
    cases y with
    | lst b' bs =>
      obtain ⟨g, h⟩ := (show ResG C σ (tLst true (as ++ bs) μ) _ from h).guard
      obtain ⟨a, vs, ea, ha, ra⟩ := rx
      obtain ⟨c, us, eb, hb, rb⟩ := ry
      have l : vs.length + us.length ≤ sizeLine := by
        rw [← line_eq, ← ra.len, ← rb.len, ← List.length_append]; exact of_decide_eq_true g
      exact .inr (.inr (.inr ⟨a, c, vs, us, ea, eb, ha.cat, hb.cat, l, fun p hp => h.ret (.ref p) (s.own p (.lst (vs ++ us))) [p] (Post.newL (Ev.refl s) W (ra.append rb) List.nodup_nil (fun _ z => nomatch z) hp)⟩))
    | _ => exact h.elim
  | non => exact h.elim
  | bl _ => exact h.elim
  | dct _ _ _ => exact h.elim
  | ref _ => exact h.elim
  | exn _ _ => exact h.elim
theorem kInts {op : Bop} {Cc : Int → Int → Prop} {g : Int → Int → Int} (ha : op ≠ .add) (hop : ∀ i j, ∃ b, binD op (.int i) (.int j) = guard' b (M.ret (.int (g i j))) ∧ (b = true → Cc i j))
    (hno : ∀ x y, (∀ i j, ¬ (x = D.int i ∧ y = D.int j)) → binD op x y = M.bad)
    (W : Wd C.K C.w s μ) (rx : RepB C.K C.w s x vx) (ry : RepB C.K C.w s y vy) (h : ResG C σ (binD op x y μ) fun d μ' => ∀ v s' o, Post C.K C.w s s' μ' d v o → Q v s'.H) :
    rI Cc (fun i j => .int (g i j)) vx vy s.H Q := by
  by_cases e : ∃ i j, x = D.int i ∧ y = D.int j
  · obtain ⟨i, j, rfl, rfl⟩ := e
    obtain ⟨b, e, hb⟩ := hop i j
    rw [e] at h
    obtain ⟨g1, h⟩ := h.guard
    exact ⟨i, j, rx.1, ry.1, hb g1, nil_post (d := .int (g i j)) W ⟨rfl, rfl⟩ h.ret⟩
  · rw [hno x y fun i j z => e ⟨i, j, z⟩] at h
    exact h.elim
end
theorem b64_lt {i : Int} (h : -B64 < i ∧ i < B64) : -(2 ^ 64) < i ∧ i < 2 ^ 64 := by
  have e : B64 = 2 ^ 64 := by decide
  rw [e] at h; exact h
section
variable {C : Ctx} {a b : Expr} {f g : Env → M D} {pos : Pos}
theorem bin_no (op : Bop) (h : op ≠ .add) (h2 : op ≠ .mul) : ∀ x y, (∀ i j, ¬ (x = D.int i ∧ y = D.int j)) → binD op x y = M.bad := by
  intro x y n
  cases op <;> first | exact absurd rfl h | exact absurd rfl h2 | (cases x <;> first | rfl | (cases y <;> first | rfl | exact absurd ⟨rfl, rfl⟩ (n _ _)))
theorem ok_add (ha : OkB C a f) (hb : OkB C b g) : OkE C (.BinOp a .Add b pos) (fun ρ => M.bind (f ρ) fun x => M.bind (g ρ) fun y => binD .add x y) :=
  tD_two (pe_op (op_add.or (op_add_str.or (op_catA.or op_catR))) ha hb) _ (fun _ _ _ q => q) (fun _ _ _ q => q) fun σ s μ x y vx vy Q W rx ry h => kAdd W rx ry h
theorem ok_sub (ha : OkB C a f) (hb : OkB C b g) : OkE C (.BinOp a .Sub b pos) (fun ρ => M.bind (f ρ) fun x => M.bind (g ρ) fun y => binD .sub x y) :=
  tD_two (pe_op op_sub ha hb) _ (fun _ _ _ q => q) (fun _ _ _ q => q) fun σ s μ x y vx vy Q W rx ry h => by
    obtain ⟨i, j, e1, e2, _, q⟩ := kInts (Cc := fun _ _ => True) (g := fun i j => i - j) (by decide) (fun i j => ⟨true, rfl, fun _ => trivial⟩) (bin_no _ (by decide) (by decide)) W rx ry h
    exact ⟨i, j, e1, e2, q⟩
theorem RepL.repl {K : PySem.W.Frag} {w : World} {s : Sx} {ds : List D} {vs : List V} (r : RepL K w s ds vs []) : ∀ n : Nat, RepL K w s (List.replicate n ds).flatten (List.replicate n vs).flatten []
  | 0 => ⟨rfl, rfl⟩
  | n + 1 => by
    rw [List.replicate_succ, List.replicate_succ, List.flatten_cons, List.flatten_cons]
    exact r.append (RepL.repl r n)
theorem kMul {σ : L2.St} {s : Sx} {μ : Sto} {x y : D} {vx vy : V} {Q : VK} (W : Wd C.K C.w s μ) (rx : RepB C.K C.w s x vx) (ry : RepB C.K C.w s y vy) (h : ResG C σ (binD .mul x y μ) fun d μ' => ∀ v s' o, Post C.K C.w s s' μ' d v o → Q v s'.H) :
    rI (fun i j => (-(2 ^ 64) < i ∧ i < 2 ^ 64) ∨ (-(2 ^ 64) < j ∧ j < 2 ^ 64)) (fun i j => .int (i * j)) vx vy s.H Q ∨ rRepR C.K vx vy s.H Q := by
  cases x with
  | int i =>
    cases y with
    | int j =>
      obtain ⟨g, h⟩ := h.guard
      exact .inl ⟨i, j, rx.1, ry.1, (of_decide_eq_true g).imp b64_lt b64_lt, nil_post (d := .int (i * j)) W ⟨rfl, rfl⟩ h.ret⟩
    | _ => exact h.elim
  | lst b ds =>
    cases y with
    | int k =>
      obtain ⟨g, h⟩ := h.guard
      obtain ⟨a, vs, ea, ha, ra⟩ := rx
      obtain ⟨g1, g2, g3⟩ := of_decide_eq_true g
      exact .inr ⟨a, k, vs, ea, ry.1, ha.sq, by omega, by omega, by rw [← line_eq, ← ra.len]; exact g3, fun p hp => h.ret (.ref p) (s.own p (.lst (List.replicate k.toNat vs).flatten)) [p] (Post.newL (Ev.refl s) W (ra.repl k.toNat) List.nodup_nil (fun _ z => nomatch z) hp)⟩
    | _ => exact h.elim
  | non => cases y <;> exact h.elim
  | bl _ => cases y <;> exact h.elim
  | str _ => cases y <;> exact h.elim
  | tup _ => cases y <;> exact h.elim
  | dct _ _ _ => cases y <;> exact h.elim
  | ref _ => cases y <;> exact h.elim
  | exn _ _ => cases y <;> exact h.elim
theorem ok_mul (ha : OkB C a f) (hb : OkB C b g) : OkE C (.BinOp a .Mult b pos) (fun ρ => M.bind (f ρ) fun x => M.bind (g ρ) fun y => binD .mul x y) :=
  tD_two (pe_op (op_mul.or op_repR) ha hb) _ (fun _ _ _ q => q) (fun _ _ _ q => q) fun σ s μ x y vx vy Q W rx ry h => kMul W rx ry h
theorem ok_fdiv (ha : OkB C a f) (hb : OkB C b g) : OkE C (.BinOp a .FloorDiv b pos) (fun ρ => M.bind (f ρ) fun x => M.bind (g ρ) fun y => binD .fdiv x y) :=
  tD_two (pe_op op_fdiv ha hb) _ (fun _ _ _ q => q) (fun _ _ _ q => q) fun σ s μ x y vx vy Q W rx ry h =>
    kInts (g := fun i j => i / j) (by decide) (fun i j => ⟨_, rfl, fun z => of_decide_eq_true (p := 0 < j ∧ j < 1073741824) z⟩) (bin_no _ (by decide) (by decide)) W rx ry h
theorem ok_mod (ha : OkB C a f) (hb : OkB C b g) : OkE C (.BinOp a .Mod b pos) (fun ρ => M.bind (f ρ) fun x => M.bind (g ρ) fun y => binD .mod x y) :=
  tD_two (pe_op op_mod ha hb) _ (fun _ _ _ q => q) (fun _ _ _ q => q) fun σ s μ x y vx vy Q W rx ry h =>
    kInts (g := fun i j => i % j) (by decide) (fun i j => ⟨_, rfl, fun z => of_decide_eq_true z⟩) (bin_no _ (by decide) (by decide)) W rx ry h
theorem ok_pow (ha : OkB C a f) (hb : OkB C b g) : OkE C (.BinOp a .Pow b pos) (fun ρ => M.bind (f ρ) fun x => M.bind (g ρ) fun y => binD .pow x y) :=
  tD_two (pe_op op_pow ha hb) _ (fun _ _ _ q => q) (fun _ _ _ q => q) fun σ s μ x y vx vy Q W rx ry h =>
    kInts (g := fun i j => i ^ j.toNat) (by decide) (fun i j => ⟨_, rfl, fun z => by
      obtain ⟨h0, h1, h2, h3⟩ := of_decide_eq_true z
      have := b64_lt ⟨h2, h3⟩
      exact ⟨h0, h1, by omega⟩⟩) (bin_no _ (by decide) (by decide)) W rx ry h
end
end Vf

/-! V4 -/
set_option autoImplicit false
set_option linter.all false
set_option Elab.async false
set_option maxHeartbeats 1000000
/-! V4: comparisons, subscripts, slices. -/
namespace Vf
open PySem PySem.Spec PyProof.Rows L2

/-! ### data for == -/
section
variable {K : PySem.W.Frag} {w : World} {s : Sx}
mutual
theorem Rep.dp : ∀ (d : D) (v : V) (o : List Addr) (p : PyData), Rep K w s d v o → d.toP = some p → Dp K s.H v p
  | .non, _, _, _, h, e => by cases e; rw [h.1]; exact .non
  | .bl b, _, _, _, h, e => by cases e; rw [h.1]; exact .bl b
  | .int i, _, _, _, h, e => by cases e; rw [h.1]; exact .int i
  | .str x, _, _, _, h, e => by cases e; rw [h.1]; exact .str x
  | .tup ds, v, o, p, h, e => by
    obtain ⟨a, vs, ev, q, r⟩ := h
    obtain ⟨ps, e1, e2⟩ := Option.map_eq_some_iff.mp (show (D.toPL ds).map PyData.tuple = some p from e)
    subst ev e2
    exact .tup q (RepL.dp ds vs o ps r e1)
  | .lst true ds, v, o, p, h, e => by
    obtain ⟨a, vs, o', ev, q, eo, r⟩ := h
    obtain ⟨ps, e1, e2⟩ := Option.map_eq_some_iff.mp (show (D.toPL ds).map PyData.list = some p from e)
    subst ev e2
    exact .lst (.of q) (RepL.dp ds vs o' ps r e1)
  | .lst false ds, v, o, p, h, e => by
    obtain ⟨a, vs, ev, q, eo, r⟩ := h
    obtain ⟨ps, e1, e2⟩ := Option.map_eq_some_iff.mp (show (D.toPL ds).map PyData.list = some p from e)
    subst ev e2
    exact .lst q.sq (RepL.dp ds vs [] ps r e1)
  | .dct _ _ _, _, _, _, _, e => by simp [D.toP] at e
  | .ref _, _, _, _, _, e => by simp [D.toP] at e
  | .exn _ _, _, _, _, _, e => by simp [D.toP] at e
theorem RepL.dp : ∀ (ds : List D) (vs : List V) (o : List Addr) (ps : List PyData), RepL K w s ds vs o → D.toPL ds = some ps → DpAll K s.H vs ps
  | [], vs, _, ps, h, e => by
    obtain ⟨rfl, _⟩ := h
    cases e
    exact .nil
  | d :: ds, vs, o, ps, h, e => by
    obtain ⟨v, vs', o1, o2, ev, eo, r1, r2⟩ := h
    subst ev
    unfold D.toPL at e
    cases e1 : d.toP with
    | none => rw [e1] at e; cases e
    | some p =>
      cases e2 : D.toPL ds with
      | none => rw [e1, e2] at e; cases e
      | some qs =>
        rw [e1, e2] at e
        cases e
        exact .cons (Rep.dp d v o1 p r1 e1) (RepL.dp ds vs' o2 qs r2 e2)
end
theorem RepB.dp {d : D} {v : V} {p : PyData} (h : RepB K w s d v) (e : d.toP = some p) : Dp K s.H v p := by
  cases d with
  | lst b ds =>
    obtain ⟨a, vs, ev, q, r⟩ := h
    obtain ⟨ps, e1, e2⟩ := Option.map_eq_some_iff.mp (show (D.toPL ds).map PyData.list = some p from e)
    subst ev e2
    exact .lst q.sq (RepL.dp ds vs [] ps r e1)
  | dct b _ _ => simp [D.toP] at e
  | non => exact Rep.dp _ v [] p h e
  | bl _ => exact Rep.dp _ v [] p h e
  | int _ => exact Rep.dp _ v [] p h e
  | str _ => exact Rep.dp _ v [] p h e
  | tup _ => exact Rep.dp _ v [] p h e
  | ref _ => exact Rep.dp _ v [] p h e
  | exn _ _ => exact Rep.dp _ v [] p h e
theorem Rep.flat {d : D} {v : V} {o : List Addr} (h : Rep K w s d v o) (f : d.flat = true) : v = d.toV ∧ flatV v = true := by
  cases d with
  | non => exact ⟨h.1, by rw [h.1]; rfl⟩
  | bl _ => exact ⟨h.1, by rw [h.1]; rfl⟩
  | int _ => exact ⟨h.1, by rw [h.1]; rfl⟩
  | str _ => exact ⟨h.1, by rw [h.1]; rfl⟩
  | _ => simp [D.flat] at f
theorem RepB.flat {d : D} {v : V} (h : RepB K w s d v) (f : d.flat = true) : v = d.toV ∧ flatV v = true := by
  cases d with
  | non => exact Rep.flat (K := K) (w := w) (s := s) (d := .non) (o := []) h f
  | bl b => exact Rep.flat (K := K) (w := w) (s := s) (d := .bl b) (o := []) h f
  | int b => exact Rep.flat (K := K) (w := w) (s := s) (d := .int b) (o := []) h f
  | str b => exact Rep.flat (K := K) (w := w) (s := s) (d := .str b) (o := []) h f
  | _ => simp [D.flat] at f
theorem RepL.flat : ∀ {ds : List D} {vs : List V}, RepL K w s ds vs [] → ds.all D.flat = true → vs = ds.map D.toV ∧ vs.all flatV = true
  | [], vs, h, _ => by
    obtain ⟨rfl, _⟩ := h
    exact ⟨rfl, rfl⟩
  | d :: ds, vs, h, f => by
    obtain ⟨v, vs', e, r1, r2⟩ := h.cons_of
    subst e
    rw [List.all_cons, Bool.and_eq_true] at f
    obtain ⟨e1, f1⟩ := r1.flat f.1
    obtain ⟨e2, f2⟩ := RepL.flat r2 f.2
    refine ⟨by rw [List.map_cons, ← e1, ← e2], ?_⟩
    rw [List.all_cons, f1, f2]
    rfl
theorem keyOf_rep {d : D} {v : V} {k : Key} (h : RepB K w s d v) (e : keyOf d = some k) : v = kV k := by
  cases d with
  | int i => cases e; exact h.1
  | str i => cases e; exact h.1
  | _ => simp [keyOf] at e
theorem kget_rep : ∀ {ks : List Key} {ds : List D} {vs : List V} {q : Key}, RepL K w s ds vs [] → ks.length = ds.length →
    (match kget ks ds q with
      | some d => ∃ v, valV (ks.zip vs) q = some v ∧ Rep K w s d v []
      | none => valV (ks.zip vs) q = none)
  | [], [], vs, q, h, _ => by
    obtain ⟨rfl, _⟩ := h
    rfl
  | [], _ :: _, _, _, _, l => by simp at l
  | _ :: _, [], _, _, _, l => by simp at l
  | k :: ks, d :: ds, vs, q, h, l => by
    obtain ⟨v, vs', e, r1, r2⟩ := h.cons_of
    subst e
    have ih := kget_rep (ks := ks) (ds := ds) (vs := vs') (q := q) r2 (by simpa using l)
    unfold kget
    rw [List.zip_cons_cons]
    by_cases e : k = q
    · rw [if_pos e]
      exact ⟨v, valV_pos e, r1⟩
    · rw [if_neg e, valV_neg (show ¬ (k, v).1 = q from e)]
      exact ih
end

/-! ### in, dicts, by values -/
def rDIn (neg : Bool) : R2 := fun x y H Q => ∃ a o, y = .ref a ∧ DGet H a x o ∧ Q (.bl (if neg then !o.isSome else o.isSome)) H
def rKIn (K : PySem.W.Frag) (w : World) (neg : Bool) : R2 := fun x y H Q => ∃ d es n z r, KDict K w d es n ∧ x = .str z ∧ y = .ref d ∧ PySem.W.nsIn K d z = some r ∧ Q (.bl (if neg then !r.isSome else r.isSome)) H
def rDIx : R2 := fun x y H Q => ∃ a v, x = .ref a ∧ DGet H a y (some v) ∧ Q v H
section
variable {X : Cx}
theorem op_dIn (hu : X.A.units + 1 < cLine) : OpR X (compareOp .In) (rDIn false) := by
  intro pins s σ H x y v u Q I rx ry h
  obtain ⟨a, o, rfl, g, q⟩ := h
  cases ry
  exact d_in hu I g rx fun s' I' => ⟨.bl o.isSome, H, I', rfl, q⟩
theorem op_dNotIn (hu : X.A.units + 1 < cLine) : OpR X (compareOp .NotIn) (rDIn true) := by
  intro pins s σ H x y v u Q I rx ry h
  obtain ⟨a, o, rfl, g, q⟩ := h
  cases ry
  exact d_notIn hu I g rx fun s' I' => ⟨.bl (!o.isSome), H, I', rfl, q⟩
theorem op_kIn : OpR X (compareOp .In) (rKIn X.K X.w false) := by
  intro pins s σ H x y v u Q I rx ry h
  obtain ⟨d, es, n, z, r, kd, ex, ey, e, q⟩ := h
  exact op_in_kd kd pins s σ H x y v u Q I rx ry ⟨z, r, ex, ey, e, q⟩
theorem op_kNotIn : OpR X (compareOp .NotIn) (rKIn X.K X.w true) := by
  intro pins s σ H x y v u Q I rx ry h
  obtain ⟨d, es, n, z, r, kd, ex, ey, e, q⟩ := h
  exact op_notIn_kd kd pins s σ H x y v u Q I rx ry ⟨z, r, ex, ey, e, q⟩
theorem ix_dict (hu : X.A.units + 1 < cLine) : IxR X rDIx := by
  intro value slice pins s σ H x y v u Q I rx ry h hs
  obtain ⟨a, r, rfl, g, q⟩ := h
  cases rx
  exact tail_any (dict_typeIs I g) PySem.F.slot_dict_getitem.lookup (d_getItem hu I g ry fun w' s' I' rw' => ⟨r, H, I', rw', q⟩) hs
end

section
variable {C : Ctx} {σ : L2.St} {s : Sx} {μ : Sto} {x y : D} {vx vy : V} {Q : VK}
theorem kIn {neg : Bool} {op : Cop} (hop : op = if neg then .notIn else .isIn) (W : Wd C.K C.w s μ) (rx : RepB C.K C.w s x vx) (ry : RepB C.K C.w s y vy)
    (h : ResG C σ (cmpD op x y μ) fun d μ' => ∀ v s' o, Post C.K C.w s s' μ' d v o → Q v s'.H) :
    rIn C.K neg vx vy s.H Q ∨ rDIn neg vx vy s.H Q ∨ rKIn C.K C.w neg vx vy s.H Q := by
  have h' : ∃ b, inD x y = some b ∧ Q (.bl (if neg then !b else b)) s.H := by
    cases neg with
    | false =>
      subst hop
      obtain ⟨d, e, q⟩ := (show ResG C σ (ofO ((inD x y).map D.bl) μ) _ from h).ofO
      obtain ⟨b, e1, e2⟩ := Option.map_eq_some_iff.mp e
      subst e2
      exact ⟨b, e1, nil_post (d := .bl b) W ⟨rfl, rfl⟩ q⟩
    | true =>
      subst hop
      obtain ⟨d, e, q⟩ := (show ResG C σ (ofO ((inD x y).map fun b => D.bl (!b)) μ) _ from h).ofO
      obtain ⟨b, e1, e2⟩ := Option.map_eq_some_iff.mp e
      subst e2
      exact ⟨b, e1, nil_post (d := .bl (!b)) W ⟨rfl, rfl⟩ q⟩
  obtain ⟨b, e, q⟩ := h'
  have seq : ∀ (ds : List D) (a : Addr) (vs : List V), vy = .ref a → (SqL C.K s.H a vs ∨ SqT C.K s.H a vs) → RepL C.K C.w s ds vs [] → (if x.flat && ds.all D.flat then some (L2.inV x.toV (ds.map D.toV)) else none) = some b → rIn C.K neg vx vy s.H Q := by
    intro ds a vs ev hs r e
    by_cases f : (x.flat && ds.all D.flat) = true
    · rw [if_pos f] at e
      cases e
      rw [Bool.and_eq_true] at f
      obtain ⟨e1, f1⟩ := rx.flat f.1
      obtain ⟨e2, f2⟩ := r.flat f.2
      refine ⟨a, vs, ev, hs, f1, f2, ?_⟩
      rw [e1, e2]
      exact q
    · rw [if_neg f] at e
      cases e
  cases y with
  | lst o ds =>
    obtain ⟨a, vs, ev, hq, r⟩ := ry
    exact .inl (seq ds a vs ev (.inl hq.sq) r e)
  | tup ds =>
    obtain ⟨a, vs, ev, hq, r⟩ := ry
    exact .inl (seq ds a vs ev (.inr hq) r e)
  | dct o ks ds =>
    cases o with
    | true =>
      obtain ⟨a, vs, ev, hq, l, r⟩ := ry
      obtain ⟨k, e1, e2⟩ := Option.map_eq_some_iff.mp (show (keyOf x).map (fun k => (kget ks ds k).isSome) = some b from e)
      have ex := keyOf_rep rx e1
      refine .inr (.inl ⟨a, valV (ks.zip vs) k, ev, .inl ⟨_, k, hq.1, ex, rfl⟩, ?_⟩)
      have z := kget_rep (q := k) r l
      have eb : (valV (ks.zip vs) k).isSome = b := by
        rw [← e2]
        cases g : kget ks ds k with
        | none => rw [g] at z; rw [show valV (ks.zip vs) k = none from z]; rfl
        | some d => rw [g] at z; obtain ⟨v, zv, _⟩ := z; rw [zv]; rfl
      rw [eb]
      exact q
    | false =>
      cases x with
      | str z0 =>
        have e : some (kget ks ds (.inr z0)).isSome = some b := e
        obtain ⟨a, vs, ev, hq, eo, l, r⟩ := ry
        have z := kget_rep (q := .inr z0) r l
        have eb : (valV (ks.zip vs) (.inr z0 : Key)).isSome = b := by
          rw [← Option.some.inj e]
          cases g : kget ks ds (.inr z0) with
          | none => rw [g] at z; rw [show valV (ks.zip vs) (.inr z0 : Key) = none from z]; rfl
          | some d => rw [g] at z; obtain ⟨v, zv, _⟩ := z; rw [zv]; rfl
        rcases hq with hq | ⟨es, n, kd, hk⟩
        · refine .inr (.inl ⟨a, valV (ks.zip vs) (.inr z0), ev, .inl ⟨_, .inr z0, hq.1, rx.1, rfl⟩, ?_⟩)
          rw [eb]
          exact q
        · have hk := hk z0
          cases g : valV (ks.zip vs) (.inr z0 : Key) with
          | none =>
            rw [g] at hk eb
            refine .inr (.inr ⟨a, es, n, z0, none, kd, rx.1, ev, hk, ?_⟩)
            rw [← eb] at q
            exact q
          | some v =>
            rw [g] at hk eb
            obtain ⟨u, hu, _⟩ := hk
            refine .inr (.inr ⟨a, es, n, z0, some u, kd, rx.1, ev, hu, ?_⟩)
            rw [← eb] at q
            exact q
      | _ => simp [inD] at e
  | _ => simp [inD] at e
theorem kEqD {neg : Bool} {op : Cop} (hop : op = if neg then .ne else .eq) (W : Wd C.K C.w s μ) (rx : RepB C.K C.w s x vx) (ry : RepB C.K C.w s y vy)
    (h : ResG C σ (cmpD op x y μ) fun d μ' => ∀ v s' o, Post C.K C.w s s' μ' d v o → Q v s'.H) :
    ∃ d e, Dp C.K s.H vx d ∧ Dp C.K s.H vy e ∧ SeqAt.shaped d = true ∧ SeqAt.shaped e = true ∧ Q (.bl (if neg then !PyData.eqv d e else PyData.eqv d e)) s.H := by
  have h' : ∃ b, D.eqD x y = some b ∧ Q (.bl (if neg then !b else b)) s.H := by
    cases neg with
    | false =>
      subst hop
      obtain ⟨d, e, q⟩ := (show ResG C σ (ofO ((D.eqD x y).map D.bl) μ) _ from h).ofO
      obtain ⟨b, e1, e2⟩ := Option.map_eq_some_iff.mp e
      subst e2
      exact ⟨b, e1, nil_post (d := .bl b) W ⟨rfl, rfl⟩ q⟩
    | true =>
      subst hop
      obtain ⟨d, e, q⟩ := (show ResG C σ (ofO ((D.eqD x y).map fun b => D.bl (!b)) μ) _ from h).ofO
      obtain ⟨b, e1, e2⟩ := Option.map_eq_some_iff.mp e
      subst e2
      exact ⟨b, e1, nil_post (d := .bl (!b)) W ⟨rfl, rfl⟩ q⟩
  obtain ⟨b, e, q⟩ := h'
  unfold D.eqD at e
  cases e1 : x.toP with
  | none => rw [e1] at e; cases e
  | some p =>
    cases e2 : y.toP with
    | none => rw [e1, e2] at e; cases e
    | some p' =>
      rw [e1, e2] at e
      have e : (if (SeqAt.shaped p && SeqAt.shaped p') = true then some (PyData.eqv p p') else none) = some b := e
      by_cases f : (SeqAt.shaped p && SeqAt.shaped p') = true
      · rw [if_pos f] at e
        cases e
        rw [Bool.and_eq_true] at f
        exact ⟨p, p', rx.dp e1, ry.dp e2, f.1, f.2, q⟩
      · rw [if_neg f] at e
        cases e
theorem kCmpI {op : Cop} {g : Int → Int → Bool} (h0 : ∀ i j, cmpD op (.int i) (.int j) = M.ret (.bl (g i j))) (h1 : ∀ x y, (∀ i j, ¬ (x = D.int i ∧ y = D.int j)) → cmpD op x y = M.bad)
    (W : Wd C.K C.w s μ) (rx : RepB C.K C.w s x vx) (ry : RepB C.K C.w s y vy) (h : ResG C σ (cmpD op x y μ) fun d μ' => ∀ v s' o, Post C.K C.w s s' μ' d v o → Q v s'.H) :
    rI0 (fun i j => .bl (g i j)) vx vy s.H Q := by
  by_cases e : ∃ i j, x = D.int i ∧ y = D.int j
  · obtain ⟨i, j, rfl, rfl⟩ := e
    rw [h0] at h
    exact ⟨i, j, rx.1, ry.1, nil_post (d := .bl (g i j)) W ⟨rfl, rfl⟩ h.ret⟩
  · rw [h1 x y fun i j z => e ⟨i, j, z⟩] at h
    exact h.elim
def D.isNon : D → Bool
  | .non => true
  | _ => false
theorem RepB.non_iff (rx : RepB C.K C.w s x vx) : decide (vx = V.non) = x.isNon := by
  cases x with
  | non => rw [rx.1]; rfl
  | bl _ => rw [rx.1]; rfl
  | int _ => rw [rx.1]; rfl
  | str _ => rw [rx.1]; rfl
  | tup _ => obtain ⟨a, vs, e, _⟩ := rx; rw [e]; rfl
  | lst _ _ => obtain ⟨a, vs, e, _⟩ := rx; rw [e]; rfl
  | dct o _ _ => cases o <;> (obtain ⟨a, vs, e, _⟩ := rx; rw [e]; rfl)
  | ref _ => obtain ⟨a, _, e, _⟩ := rx; rw [e]; rfl
  | exn _ _ => exact rx.elim
theorem kIsN {neg : Bool} {op : Cop} (hop : op = if neg then .notN else .isN) (W : Wd C.K C.w s μ) (rx : RepB C.K C.w s x vx) (ry : RepB C.K C.w s y vy)
    (h : ResG C σ (cmpD op x y μ) fun d μ' => ∀ v s' o, Post C.K C.w s s' μ' d v o → Q v s'.H) : vy = .non ∧ Q (.bl (if neg then !decide (vx = .non) else decide (vx = .non))) s.H := by
  rw [rx.non_iff]
  cases y with
  | non =>
    refine ⟨ry.1, ?_⟩
    subst hop
    cases neg with
    | false => cases x <;> exact nil_post (d := .bl _) W ⟨rfl, rfl⟩ h.ret
    | true => cases x <;> exact nil_post (d := .bl _) W ⟨rfl, rfl⟩ h.ret
  | _ => subst hop; cases neg <;> cases x <;> exact h.elim
end
/-- how a comparison is written -/
def copOf : Cop → CmpOp
  | .eq => .Eq | .ne => .NotEq | .lt => .Lt | .le => .LtE | .gt => .Gt | .ge => .GtE | .isN => .Is | .notN => .IsNot | .isIn => .In | .notIn => .NotIn
/-- its reading by values -/
def rCop (K : PySem.W.Frag) (w : World) : Cop → R2
  | .eq => rEqD K
  | .ne => rNeD K
  | .lt => rI0 fun i j => .bl (decide (i < j))
  | .le => rI0 fun i j => .bl (decide (i ≤ j))
  | .gt => rI0 fun i j => .bl (decide (j < i))
  | .ge => rI0 fun i j => .bl (decide (j ≤ i))
  | .isN => fun x y H Q => y = .non ∧ Q (.bl (decide (x = .non))) H
  | .notN => fun x y H Q => y = .non ∧ Q (.bl (!decide (x = .non))) H
  | .isIn => fun x y H Q => rIn K false x y H Q ∨ rDIn false x y H Q ∨ rKIn K w false x y H Q
  | .notIn => fun x y H Q => rIn K true x y H Q ∨ rDIn true x y H Q ∨ rKIn K w true x y H Q
theorem op_cop {X : Cx} (hu : X.A.units + 64 < cLine) : ∀ op : Cop, OpR X (compareOp (copOf op)) (rCop X.K X.w op)
  | .eq => op_eqD hu
  | .ne => op_neD hu
  | .lt => op_lt
  | .le => op_le
  | .gt => op_gt
  | .ge => op_ge
  | .isN => op_isN
  | .notN => op_notN
  | .isIn => op_in_seq.or ((op_dIn (by omega)).or op_kIn)
  | .notIn => op_notIn_seq.or ((op_dNotIn (by omega)).or op_kNotIn)
theorem cmp_no (op : Cop) (h : op = .lt ∨ op = .le ∨ op = .gt ∨ op = .ge) : ∀ x y, (∀ i j, ¬ (x = D.int i ∧ y = D.int j)) → cmpD op x y = M.bad := by
  intro x y n
  rcases h with rfl | rfl | rfl | rfl <;> (cases x <;> first | rfl | (cases y <;> first | rfl | exact absurd ⟨rfl, rfl⟩ (n _ _)))
theorem kCop {C : Ctx} {σ : L2.St} {s : Sx} {μ : Sto} {x y : D} {vx vy : V} {Q : VK} (op : Cop) (W : Wd C.K C.w s μ) (rx : RepB C.K C.w s x vx) (ry : RepB C.K C.w s y vy)
    (h : ResG C σ (cmpD op x y μ) fun d μ' => ∀ v s' o, Post C.K C.w s s' μ' d v o → Q v s'.H) : rCop C.K C.w op vx vy s.H Q := by
  cases op with
  | eq => exact kEqD (neg := false) rfl W rx ry h
  | ne => exact kEqD (neg := true) rfl W rx ry h
  | lt => exact kCmpI (op := .lt) (fun _ _ => rfl) (cmp_no _ (by simp)) W rx ry h
  | le => exact kCmpI (op := .le) (fun _ _ => rfl) (cmp_no _ (by simp)) W rx ry h
  | gt => exact kCmpI (op := .gt) (fun _ _ => rfl) (cmp_no _ (by simp)) W rx ry h
  | ge => exact kCmpI (op := .ge) (fun _ _ => rfl) (cmp_no _ (by simp)) W rx ry h
  | isN => exact kIsN (neg := false) rfl W rx ry h
  | notN => exact kIsN (neg := true) rfl W rx ry h
  | isIn => exact kIn (neg := false) rfl W rx ry h
  | notIn => exact kIn (neg := true) rfl W rx ry h
end Vf

/-! V5 -/
set_option autoImplicit false
set_option linter.all false
set_option Elab.async false
set_option maxHeartbeats 1000000
/-! V5: truth, tests, chains, and, or, if-else. -/
namespace Vf
open PySem PySem.Spec PyProof.Rows L2

/-! ### truth -/
theorem isEmpty_len {α β : Type} {xs : List α} {ys : List β} (h : xs.length = ys.length) : xs.isEmpty = ys.isEmpty := by
  cases xs <;> cases ys <;> first | rfl | simp at h
theorem fzL_len : ∀ ds : List D, (D.fzL ds).length = ds.length
  | [] => rfl
  | d :: ds => by
    show (D.fzL ds).length + 1 = ds.length + 1
    rw [fzL_len ds]
theorem truD_fz (d : D) : truD d.fz = truD d := by
  cases d with
  | tup ds => show some (!(D.fzL ds).isEmpty) = some (!ds.isEmpty); rw [isEmpty_len (fzL_len ds)]
  | lst o ds => show some (!(D.fzL ds).isEmpty) = some (!ds.isEmpty); rw [isEmpty_len (fzL_len ds)]
  | _ => rfl
section
variable {K : PySem.W.Frag} {w : World} {s : Sx} {d : D} {v : V} {o : List Addr} {b : Bool}
theorem Rep.tru (h : Rep K w s d v o) (e : truD d = some b) : TruV K v s.H b := by
  cases d with
  | non => rw [h.1]; exact (Option.some.inj e).symm
  | bl x => rw [h.1]; exact (Option.some.inj e).symm
  | int x => rw [h.1]; exact (Option.some.inj e).symm
  | str x =>
    rw [h.1]
    have e : (if x.length ≤ LINE then some ((x.length : Int) != 0) else none) = some b := e
    by_cases g : x.length ≤ LINE
    · rw [if_pos g] at e
      exact ⟨by rw [← line_eq]; exact g, (Option.some.inj e).symm⟩
    · rw [if_neg g] at e; cases e
  | tup ds =>
    obtain ⟨a, vs, ev, q, r⟩ := h
    rw [ev]
    exact .inr (.inl ⟨vs, q, by rw [← Option.some.inj e, isEmpty_len r.len]⟩)
  | lst o ds =>
    cases o with
    | true =>
      obtain ⟨a, vs, o', ev, q, eo, r⟩ := h
      rw [ev]
      exact .inl ⟨vs, .of q, by rw [← Option.some.inj e, isEmpty_len r.len]⟩
    | false =>
      obtain ⟨a, vs, ev, q, eo, r⟩ := h
      rw [ev]
      exact .inl ⟨vs, q.sq, by rw [← Option.some.inj e, isEmpty_len r.len]⟩
  | _ => simp [truD] at e
theorem RepB.tru (h : RepB K w s d v) (e : truD d = some b) : TruV K v s.H b := by
  cases d with
  | lst o ds =>
    obtain ⟨a, vs, ev, q, r⟩ := h
    rw [ev]
    exact .inl ⟨vs, q.sq, by rw [← Option.some.inj e, isEmpty_len r.len]⟩
  | dct o ks vs => simp [truD] at e
  | non => exact Rep.tru (w := w) (d := .non) (o := []) h e
  | bl x => exact Rep.tru (w := w) (d := .bl x) (o := []) h e
  | int x => exact Rep.tru (w := w) (d := .int x) (o := []) h e
  | str x => exact Rep.tru (w := w) (d := .str x) (o := []) h e
  | tup x => exact Rep.tru (w := w) (d := .tup x) (o := []) h e
  | ref x => simp [truD] at e
  | exn x y => simp [truD] at e
end

/-! ### more about results -/
section
variable {C : Ctx} {σ : L2.St} {α β : Type} {μ μ' : Sto}
theorem ResG.bindE {m : M α} {k : α → M β} {F : β → Sto → Prop} (h : ResG C σ (M.bind m k μ) F) : ResG C σ (m μ) fun a μ1 => m μ = .ok a μ1 ∧ ResG C σ (k a μ1) F := by
  unfold M.bind at h
  cases e : m μ with
  | ok a μ1 => rw [e] at h; exact ⟨rfl, h⟩
  | exc c fs μ1 => rw [e] at h; exact h
  | bad => rw [e] at h; exact h.elim
theorem ResG.withE {r : R α} {F : α → Sto → Prop} (h : ResG C σ r F) : ResG C σ r fun a μ1 => r = .ok a μ1 ∧ F a μ1 := by
  cases r with
  | ok a μ1 => exact ⟨rfl, h⟩
  | exc c fs μ1 => exact h
  | bad => exact h.elim
theorem bind_ok {m : M α} {k : α → M β} {b : β} (h : M.bind m k μ = .ok b μ') : ∃ a μ1, m μ = .ok a μ1 ∧ k a μ1 = .ok b μ' := by
  unfold M.bind at h
  cases e : m μ with
  | ok a μ1 => rw [e] at h; exact ⟨a, μ1, rfl, h⟩
  | exc c fs μ1 => rw [e] at h; cases h
  | bad => rw [e] at h; cases h
theorem ofO_ok {o : Option α} {a : α} (h : ofO o μ = .ok a μ') : o = some a ∧ μ' = μ := by
  cases o with
  | none => cases h
  | some x => cases h; exact ⟨rfl, rfl⟩
end
theorem cmpD_bl {op : Cop} {x y d : D} {μ μ' : Sto} (h : cmpD op x y μ = .ok d μ') : ∃ b, d = .bl b := by
  cases op with
  | eq =>
    obtain ⟨e, _⟩ := ofO_ok (show ofO ((D.eqD x y).map D.bl) μ = _ from h)
    obtain ⟨b, _, e2⟩ := Option.map_eq_some_iff.mp e
    exact ⟨b, e2.symm⟩
  | ne =>
    obtain ⟨e, _⟩ := ofO_ok (show ofO ((D.eqD x y).map fun b => D.bl (!b)) μ = _ from h)
    obtain ⟨b, _, e2⟩ := Option.map_eq_some_iff.mp e
    exact ⟨_, e2.symm⟩
  | isIn =>
    obtain ⟨e, _⟩ := ofO_ok (show ofO ((inD x y).map D.bl) μ = _ from h)
    obtain ⟨b, _, e2⟩ := Option.map_eq_some_iff.mp e
    exact ⟨b, e2.symm⟩
  | notIn =>
    obtain ⟨e, _⟩ := ofO_ok (show ofO ((inD x y).map fun b => D.bl (!b)) μ = _ from h)
    obtain ⟨b, _, e2⟩ := Option.map_eq_some_iff.mp e
    exact ⟨_, e2.symm⟩
  | lt => unfold cmpD at h; dsimp only at h; split at h <;> cases h; exact ⟨_, rfl⟩
  | le => unfold cmpD at h; dsimp only at h; split at h <;> cases h; exact ⟨_, rfl⟩
  | gt => unfold cmpD at h; dsimp only at h; split at h <;> cases h; exact ⟨_, rfl⟩
  | ge => unfold cmpD at h; dsimp only at h; split at h <;> cases h; exact ⟨_, rfl⟩
  | isN => unfold cmpD at h; dsimp only at h; split at h <;> cases h <;> exact ⟨_, rfl⟩
  | notN => unfold cmpD at h; dsimp only at h; split at h <;> cases h <;> exact ⟨_, rfl⟩

/-! ### forms of expressions -/
def plainT : Expr → Bool
  | .UnaryOp .Not _ _ => false
  | .BoolOp .. => false
  | .IfExp .. => false
  | .Compare .. => false
  | _ => true
theorem plainT_ok {e : Expr} (h : plainT e = true) (env : PySem.Env) : ∀ whole, isTrue e env whole = (do let v ← whole; standAt e.pos; holding [v] (truthy v)) := by
  intro whole
  cases e with
  | UnaryOp op a p => cases op <;> first | rfl | cases h
  | BoolOp => cases h
  | IfExp => cases h
  | Compare => cases h
  | _ => rfl
def notSet : Expr → Bool
  | .Set .. => false
  | _ => true
theorem notSet_ok {e : Expr} (h : notSet e = true) (op : CmpOp) : behindInMarks op e = false := by
  cases e <;> first | rfl | cases h
def notSlice : Expr → Bool
  | .Slice .. => false
  | _ => true
theorem notSlice_ok {e : Expr} (h : notSlice e = true) : PlainIx e := by
  intro o i
  cases e <;> first | rfl | cases h
def notStar : Expr → Bool
  | .Starred .. => false
  | _ => true
theorem notStar_ok {e : Expr} (h : notStar e = true) (es : List Expr) (env : PySem.Env) : starEach (e :: es) env = (false, eval e env) :: starEach es env := by
  cases e <;> first | rfl | cases h
theorem noStars : ∀ {es : List Expr}, es.all notStar = true → ∀ (pos : Pos) (env : PySem.Env), (backTo pos (starEach es env)).any (·.1) = false
  | [], _, _, _ => rfl
  | e :: es, h, pos, env => by
    rw [List.all_cons, Bool.and_eq_true] at h
    rw [notStar_ok h.1]
    show (false || (backTo pos (starEach es env)).any (·.1)) = false
    rw [noStars h.2 pos env]
    rfl
def notSetI : Expr → Bool
  | .Set .. => false
  | _ => true
theorem notSetI_ok {e : Expr} (h : notSetI e = true) (env : PySem.Env) : ∀ x, foldedSetIterable e env x = pure x := by
  intro x
  cases e <;> first | rfl | cases h

/-! ### tests -/
abbrev OkW (C : Ctx) (e : Expr) (f : Env → M Bool) : Prop := PW C.X e (tDT C f)
theorem PW_imp {X : Cx} {e : Expr} {t t' : TT} (h : PW X e t) (i : ∀ σ H Q, t' σ H Q → t σ H Q) : PW X e t' := ⟨fun wh pins s σ H Q I q => h.run wh pins s σ H Q I (i σ H Q q)⟩
section
variable {C : Ctx} {e a b c : Expr} {f g h : Env → M D} {pos : Pos}
theorem rd_two {R : V → V → Hp → VK → Prop} (k : D → D → M D) {σ : L2.St} {H : Hp} {Q : VK}
    (hk : ∀ σ s μ x y vx vy Q, Wd C.K C.w s μ → RepB C.K C.w s x vx → RepB C.K C.w s y vy → ResG C σ (k x y μ) (fun d μ' => ∀ v s' o, Post C.K C.w s s' μ' d v o → Q v s'.H) → R vx vy s.H Q)
    (hh : tD C (fun ρ => M.bind (f ρ) fun x => M.bind (g ρ) fun y => k x y) σ H Q) : tOp R (tDB C f) (tDB C g) σ H Q := by
  obtain ⟨s, ρ, own, μ, e1, p, q⟩ := hh
  refine ⟨s, ρ, own, μ, e1, p, q.bind.mono fun x μ1 h1 vx s1 p1 => ?_⟩
  refine ⟨s1, ρ, own, μ1, rfl, p.step p1.ev p1.wd, h1.bind.mono fun y μ2 h2 vy s2 p2 => ?_⟩
  exact hk σ s2 μ2 x y vx vy Q p2.wd (p2.ev.repB p1.wd p1.rep) p2.rep (h2.mono fun d μ' h3 v s' o po => h3 v s' o (po.tr (p1.ev.trans p2.ev)))
def OnlyB (f : Env → M D) : Prop := ∀ ρ μ d μ', f ρ μ = .ok d μ' → ∃ b, d = .bl b
theorem onlyB_cmp (op : Cop) : OnlyB (fun ρ => M.bind (f ρ) fun x => M.bind (g ρ) fun y => cmpD op x y) := fun ρ μ d μ' e => by
  obtain ⟨x, μ1, _, e⟩ := bind_ok e
  obtain ⟨y, μ2, _, e⟩ := bind_ok e
  exact cmpD_bl e
/-- a value as a test -/
abbrev asT (f : Env → M D) : Env → M Bool := fun ρ => M.bind (M.bind (f ρ) (opnd false)) tests
theorem tD_of_T (hb : OnlyB f) {σ : L2.St} {H : Hp} {Q : Bool → Hp → Prop} (hh : tDT C (asT f) σ H Q) : tD C f σ H (fun v H' => ∃ k, v = .bl k ∧ Q k H') := by
  obtain ⟨s, ρ, own, μ, e1, p, q⟩ := hh
  refine ⟨s, ρ, own, μ, e1, p, q.bind.bindE.mono fun d μ1 ⟨he, h1⟩ v s' o po => ?_⟩
  obtain ⟨b, rfl⟩ := hb _ _ _ _ he
  exact ⟨b, po.rep.1, h1.ret.ret s' po.ev po.wd⟩
theorem ok_cmp (hu : C.X.A.units + 64 < cLine) (op : Cop) (ha : OkB C a f) (hb : OkB C b g) (hm : notSet b = true) :
    OkE C (.Compare a [copOf op] [b] pos) (fun ρ => M.bind (f ρ) fun x => M.bind (g ρ) fun y => cmpD op x y) :=
  PE_imp (pe_cmpR (op_cop hu op) ha hb (notSet_ok hm _)) fun σ H Q q => rd_two _ (fun σ s μ x y vx vy Q W rx ry h => kCop op W rx ry h) q
theorem ok_tcmp (hu : C.X.A.units + 64 < cLine) (op : Cop) (ha : OkB C a f) (hb : OkB C b g) (hm : notSet b = true) :
    OkT C (.Compare a [copOf op] [b] pos) (asT fun ρ => M.bind (f ρ) fun x => M.bind (g ρ) fun y => cmpD op x y) :=
  PT_imp (pt_cmpR (op_cop hu op) ha hb (notSet_ok hm _)) fun σ H Q q => rd_two _ (fun σ s μ x y vx vy Q W rx ry h => kCop op W rx ry h) (tD_of_T (onlyB_cmp op) q)
theorem ok_truth (hh : OkB C e g) (he : plainT e = true) : OkT C e (fun ρ => M.bind (g ρ) tests) :=
  PT_imp (pt_truth hh (plainT_ok he _)) fun σ H Q ⟨s, ρ, own, μ, e1, p, q⟩ => ⟨s, ρ, own, μ, e1, p, q.bind.mono fun x μ1 h1 v s1 p1 => by
    obtain ⟨k, e, hF⟩ := (show ResG C σ (ofO (truD x) μ1) _ from h1).ofO
    exact ⟨k, p1.rep.tru e, hF s1 p1.ev p1.wd⟩⟩
def chainK (op op' : Cop) (f g h : Env → M D) : Env → M D := fun ρ => M.bind (f ρ) fun x => M.bind (g ρ) fun y => M.bind (cmpD op x y) fun
    | .bl true => M.bind (h ρ) fun z => cmpD op' y z
    | .bl false => M.ret (.bl false)
    | _ => M.bad
theorem rd_chain (op op' : Cop) {σ : L2.St} {H : Hp} {Q : VK} (hh : tD C (chainK op op' f g h) σ H Q) : tChain (rCop C.K C.w op) (rCop C.K C.w op') (tDB C f) (tDB C g) (tDB C h) σ H Q := by
  obtain ⟨s, ρ, own, μ, e1, p, q⟩ := hh
  refine ⟨s, ρ, own, μ, e1, p, q.bind.mono fun x μ1 h1 vx s1 p1 => ?_⟩
  have pp1 := p.step p1.ev p1.wd
  refine ⟨s1, ρ, own, μ1, rfl, pp1, h1.bind.mono fun y μ2 h2 vy s2 p2 => ?_⟩
  have pp2 := pp1.step p2.ev p2.wd
  refine kCop op p2.wd (p2.ev.repB p1.wd p1.rep) p2.rep (h2.bindE.mono fun d μ3 ⟨he, h3⟩ v s3 o po => ?_)
  obtain ⟨b, rfl⟩ := cmpD_bl he
  refine ⟨b, po.rep.1, ?_⟩
  cases b with
  | true =>
    refine ⟨s3, ρ, own, μ3, rfl, pp2.step po.ev po.wd, h3.bind.mono fun z μ4 h4 vz s4 p4 => ?_⟩
    exact kCop op' p4.wd ((po.ev.trans p4.ev).repB p2.wd p2.rep) p4.rep (h4.mono fun d μ' h5 v s' o pf => h5 v s' o (pf.tr (((p1.ev.trans p2.ev).trans po.ev).trans p4.ev)))
  | false => exact h3.ret (.bl false) s3 [] (Post.scal ((p1.ev.trans p2.ev).trans po.ev) po.wd ⟨rfl, rfl⟩)
theorem onlyB_chain (op op' : Cop) : OnlyB (chainK op op' f g h) := fun ρ μ d μ' e => by
  obtain ⟨x, μ1, _, e⟩ := bind_ok e
  obtain ⟨y, μ2, _, e⟩ := bind_ok e
  obtain ⟨z, μ3, hz, e⟩ := bind_ok e
  obtain ⟨b, rfl⟩ := cmpD_bl hz
  cases b with
  | true =>
    obtain ⟨z, μ4, _, e⟩ := bind_ok e
    exact cmpD_bl e
  | false => cases e; exact ⟨_, rfl⟩
theorem lastMarks_ok (op op' : CmpOp) (hm : notSet c = true) : lastMarks [op, op'] [b, c] = false := notSet_ok hm op'
theorem ok_chain (hu : C.X.A.units + 64 < cLine) (op op' : Cop) (ha : OkB C a f) (hb : OkB C b g) (hc : OkB C c h) (hm : notSet c = true) :
    OkE C (.Compare a [copOf op, copOf op'] [b, c] pos) (chainK op op' f g h) :=
  PE_imp (pe_chain (op_cop hu op) (op_cop hu op') ha hb hc (lastMarks_ok _ _ hm)) fun σ H Q q => rd_chain op op' q
theorem ok_tchain (hu : C.X.A.units + 64 < cLine) (op op' : Cop) (ha : OkB C a f) (hb : OkB C b g) (hc : OkB C c h) (hm : notSet c = true) :
    OkT C (.Compare a [copOf op, copOf op'] [b, c] pos) (asT (chainK op op' f g h)) :=
  PT_imp (pt_chain (op_cop hu op) (op_cop hu op') ha hb hc (lastMarks_ok _ _ hm)) fun σ H Q q => rd_chain op op' (tD_of_T (onlyB_chain op op') q)
/-! not -/
def notK (g : Env → M D) : Env → M D := fun ρ => M.bind (g ρ) fun x => M.bind (tests x) fun b => M.ret (.bl (!b))
theorem ok_not (ha : OkB C a g) : OkE C (.UnaryOp .Not a pos) (notK g) :=
  PE_imp (pe_notT ha) fun σ H Q ⟨s, ρ, own, μ, e1, p, q⟩ => ⟨s, ρ, own, μ, e1, p, q.bind.mono fun x μ1 h1 v s1 p1 => by
    obtain ⟨k, e, hF⟩ := (show ResG C σ (ofO (truD x) μ1) _ from h1.bind).ofO
    exact ⟨k, p1.rep.tru e, hF.ret (.bl (!k)) s1 [] (Post.scal p1.ev p1.wd ⟨rfl, rfl⟩)⟩⟩
theorem ok_tnot {t : Env → M Bool} (ha : OkT C a (fun ρ => M.bind (g ρ) tests)) : OkT C (.UnaryOp .Not a pos) (asT (notK g)) :=
  PT_imp (pt_not ha) fun σ H Q ⟨s, ρ, own, μ, e1, p, q⟩ => ⟨s, ρ, own, μ, e1, p, by
    have q : ResG C σ (M.bind (M.bind (M.bind (g ρ) fun x => M.bind (tests x) fun b => M.ret (.bl (!b))) (opnd false)) tests μ) _ := q
    have q2 := q.bind.bind.bind
    show ResG C σ (M.bind (g ρ) tests μ) _
    unfold M.bind
    cases hg : g ρ μ with
    | ok x μ1 =>
      rw [hg] at q2
      have q3 := (show ResG C σ (M.bind (tests x) (fun b => M.ret (D.bl (!b))) μ1) _ from q2).bind
      exact q3.mono fun b μ2 h s' ev wd => h.ret.ret.ret s' ev wd
    | exc c fs μ1 => rw [hg] at q2; exact q2
    | bad => rw [hg] at q2; exact q2.elim⟩
/-! and, or -/
def andK (f g : Env → M D) : Env → M D := fun ρ => M.bind (f ρ) fun x => M.bind (tests x) fun | true => g ρ | false => M.ret x
def orK (f g : Env → M D) : Env → M D := fun ρ => M.bind (f ρ) fun x => M.bind (tests x) fun | true => M.ret x | false => g ρ
variable {rest : List Expr}
theorem ok_one {op : BoolOp} (h : OkE C a f) : OkE C (.BoolOp op [a] pos) f := pe_one h
theorem ok_and (ha : OkE C a f) (hb : OkE C (.BoolOp .And (b :: rest) pos) g) : OkE C (.BoolOp .And (a :: b :: rest) pos) (andK f g) :=
  PE_imp (pe_andT ha hb) fun σ H Q ⟨s, ρ, own, μ, e1, p, q⟩ => ⟨s, ρ, own, μ, e1, p, q.bind.mono fun x μ1 h1 v s1 o p1 => by
    obtain ⟨k, e, hF⟩ := (show ResG C σ (ofO (truD x) μ1) _ from h1.bind).ofO
    refine ⟨k, p1.rep.tru e, ?_⟩
    cases k with
    | true => exact ⟨s1, ρ, own, μ1, rfl, p.step p1.ev p1.wd, hF.mono fun d μ' h v s' o po => h v s' o (po.tr p1.ev)⟩
    | false => exact hF.ret v s1 o p1⟩
theorem ok_or (ha : OkE C a f) (hb : OkE C (.BoolOp .Or (b :: rest) pos) g) : OkE C (.BoolOp .Or (a :: b :: rest) pos) (orK f g) :=
  PE_imp (pe_orT ha hb) fun σ H Q ⟨s, ρ, own, μ, e1, p, q⟩ => ⟨s, ρ, own, μ, e1, p, q.bind.mono fun x μ1 h1 v s1 o p1 => by
    obtain ⟨k, e, hF⟩ := (show ResG C σ (ofO (truD x) μ1) _ from h1.bind).ofO
    refine ⟨k, p1.rep.tru e, ?_⟩
    cases k with
    | false => exact ⟨s1, ρ, own, μ1, rfl, p.step p1.ev p1.wd, hF.mono fun d μ' h v s' o po => h v s' o (po.tr p1.ev)⟩
    | true => exact hF.ret v s1 o p1⟩
theorem tests_fz (x : D) : M.bind (opnd false x) tests = tests x := by
  show tests x.fz = tests x
  show ofO (truD x.fz) = ofO (truD x)
  rw [truD_fz]
theorem ok_w1 {op : BoolOp} {t : Env → M Bool} (ha : OkT C a t) : OkW C (.BoolOp op [a] pos) t := by
  cases op with
  | And => exact pw_and1 ha
  | Or => exact pw_or1 ha
theorem asT_res {ρ : Env} {μ : Sto} {σ : L2.St} {F : Bool → Sto → Prop} : ResG C σ (asT f ρ μ) F ↔ ResG C σ (f ρ μ) fun x μ1 => ResG C σ (tests x μ1) F := by
  show ResG C σ (M.bind (M.bind (f ρ) (opnd false)) tests μ) F ↔ _
  unfold M.bind
  cases hf : f ρ μ with
  | ok x μ1 =>
    have e : tests x.fz μ1 = tests x μ1 := congrFun (tests_fz x) μ1
    show ResG C σ (tests x.fz μ1) F ↔ ResG C σ (tests x μ1) F
    rw [e]
  | exc c fs μ1 => exact Iff.rfl
  | bad => exact Iff.rfl
theorem tests_ok {x : D} {μ : Sto} {σ : L2.St} {F : Bool → Sto → Prop} (h : ResG C σ (tests x μ) F) : ∃ b, truD x = some b ∧ tests x μ = .ok b μ ∧ F b μ := by
  obtain ⟨b, e, hF⟩ := (show ResG C σ (ofO (truD x) μ) _ from h).ofO
  exact ⟨b, e, by show ofO (truD x) μ = _; rw [e]; rfl, hF⟩
theorem ok_tand (ha : OkT C a (asT f)) (hb : OkW C (.BoolOp .And (b :: rest) pos) (asT g)) : OkW C (.BoolOp .And (a :: b :: rest) pos) (asT (andK f g)) :=
  PW_imp (pw_and ha hb) fun σ H Q ⟨s, ρ, own, μ, e1, p, q⟩ => ⟨s, ρ, own, μ, e1, p, by
    have q := (asT_res.mp q).bind
    refine asT_res.mpr (q.mono fun x μ1 h1 => ?_)
    obtain ⟨b, e, et, h2⟩ := tests_ok h1.bind
    rw [et]
    cases b with
    | true =>
      intro s1 ev wd
      refine ⟨s1, ρ, own, μ1, rfl, p.step ev wd, asT_res.mpr (ResG.mono h2 fun y μ2 h3 => h3.mono fun k μ3 h4 s' ev' wd' => h4 s' (ev.trans ev') wd')⟩
    | false =>
      obtain ⟨k, ek, _, h3⟩ := tests_ok h2.ret
      rw [e] at ek
      cases ek
      exact fun s1 ev wd => h3 s1 ev wd⟩
theorem ok_tor (ha : OkT C a (asT f)) (hb : OkW C (.BoolOp .Or (b :: rest) pos) (asT g)) : OkW C (.BoolOp .Or (a :: b :: rest) pos) (asT (orK f g)) :=
  PW_imp (pw_or ha hb) fun σ H Q ⟨s, ρ, own, μ, e1, p, q⟩ => ⟨s, ρ, own, μ, e1, p, by
    have q := (asT_res.mp q).bind
    refine asT_res.mpr (q.mono fun x μ1 h1 => ?_)
    obtain ⟨b, e, et, h2⟩ := tests_ok h1.bind
    rw [et]
    cases b with
    | false =>
      intro s1 ev wd
      refine ⟨s1, ρ, own, μ1, rfl, p.step ev wd, asT_res.mpr (ResG.mono h2 fun y μ2 h3 => h3.mono fun k μ3 h4 s' ev' wd' => h4 s' (ev.trans ev') wd')⟩
    | true =>
      obtain ⟨k, ek, _, h3⟩ := tests_ok h2.ret
      rw [e] at ek
      cases ek
      exact fun s1 ev wd => h3 s1 ev wd⟩
/-! a if c else b -/
def ifK (t : Env → M Bool) (f g : Env → M D) : Env → M D := fun ρ => M.bind (t ρ) fun | true => f ρ | false => g ρ
theorem ok_ife {t : Env → M Bool} (hc : OkT C c t) (ha : OkE C a f) (hb : OkE C b g) : OkE C (.IfExp c a b pos) (ifK t f g) :=
  PE_imp (pe_ifExp hc ha hb) fun σ H Q ⟨s, ρ, own, μ, e1, p, q⟩ => ⟨s, ρ, own, μ, e1, p, q.bind.mono fun k μ1 h1 s1 ev wd => by
    cases k with
    | true => exact ⟨s1, ρ, own, μ1, rfl, p.step ev wd, ResG.mono h1 fun d μ' h v s' o po => h v s' o (po.tr ev)⟩
    | false => exact ⟨s1, ρ, own, μ1, rfl, p.step ev wd, ResG.mono h1 fun d μ' h v s' o po => h v s' o (po.tr ev)⟩⟩
end
end Vf

/-! V6 -/
set_option autoImplicit false
set_option linter.all false
set_option Elab.async false
set_option maxHeartbeats 1000000
/-! V6: argument lists, displays, subscripts, slices, built-ins, calls. -/
namespace Vf
open PySem PySem.Spec PyProof.Rows L2

/-! ### argument lists -/
section
variable {C : Ctx} {e a b : Expr} {es : List Expr} {f g : Env → M D} {ga : Env → M (List D)} {pos : Pos}
theorem ok_anil : OkA C [] (fun _ => M.ret []) := PA_imp pa_nil fun σ H Q ⟨s, ρ, own, μ, e1, p, q⟩ => by
  show Q [] H
  rw [← e1]
  exact q.ret [] s [] (Ev.refl s) p.wd ⟨rfl, rfl⟩ List.nodup_nil fun _ z => nomatch z
def consK (f : Env → M D) (ga : Env → M (List D)) : Env → M (List D) := fun ρ => M.bind (f ρ) fun d => M.bind (ga ρ) fun ds => M.ret (d :: ds)
theorem ok_acons (ha : OkE C e f) (hr : OkA C es ga) (hs : notStar e = true) : OkA C (e :: es) (consK f ga) :=
  PA_imp (pa_cons ha hr (notStar_ok hs es _)) fun σ H Q ⟨s, ρ, own, μ, e1, p, q⟩ => ⟨s, ρ, own, μ, e1, p, q.bind.mono fun d μ1 h1 v s1 o po =>
    ⟨s1, ρ, own, μ1, rfl, p.step po.ev po.wd, h1.bind.mono fun ds μ2 h2 vs s2 o2 ev wd r nd ow => by
      have hd := ev.rep po.wd po.rep fun a ha => ⟨(po.ow a ha).1, (po.ow a ha).2.2⟩
      refine h2.ret (v :: vs) s2 (o ++ o2) (po.ev.trans ev) wd ⟨v, vs, o, o2, rfl, rfl, hd, r⟩ ?_ fun a ha => ?_
      · exact List.nodup_append.mpr ⟨po.nd, nd, fun a ha b hb e => (ow b hb).2.1 (by rw [← e]; exact (po.ow a ha).1)⟩
      · rcases List.mem_append.mp ha with h | h
        · have := ev.ownS po.wd (o := o) (fun a ha => ⟨(po.ow a ha).1, (po.ow a ha).2.2⟩) a h
          exact ⟨this.1, (po.ow a h).2.1, this.2⟩
        · exact ⟨(ow a h).1, fun z => (ow a h).2.1 (po.ev.up a z), (ow a h).2.2⟩⟩⟩
theorem ok_tup {k : Nat} (h : OkA C es ga) : OkE C (.Tuple es k pos) (fun ρ => M.bind (ga ρ) fun ds => tTup ds) :=
  PE_imp (pe_tup h) fun σ H Q ⟨s, ρ, own, μ, e1, p, q⟩ => ⟨s, ρ, own, μ, e1, p, q.bind.mono fun ds μ1 h1 vs s1 o ev wd r nd ow => by
    obtain ⟨g, h1⟩ := (show ResG C σ (tTup ds μ1) _ from h1).guard
    exact ⟨by rw [← line_eq, ← r.len]; exact of_decide_eq_true g, fun p hp => h1.ret (.ref p) (s1.tup p (.tup vs)) o (Post.newT ev wd r nd ow hp)⟩⟩
theorem ok_lst (h : OkA C es ga) : OkE C (.List es pos) (fun ρ => M.bind (ga ρ) fun ds => tLst true ds) :=
  PE_imp (pe_lst h) fun σ H Q ⟨s, ρ, own, μ, e1, p, q⟩ => ⟨s, ρ, own, μ, e1, p, q.bind.mono fun ds μ1 h1 vs s1 o ev wd r nd ow => by
    obtain ⟨g, h1⟩ := (show ResG C σ (tLst true ds μ1) _ from h1).guard
    exact ⟨by rw [← line_eq, ← r.len]; exact of_decide_eq_true g, fun p hp => h1.ret (.ref p) (s1.own p (.lst vs)) (p :: o) (Post.newL ev wd r nd ow hp)⟩⟩
/-! a new shared object -/
def Sx.shr (s : Sx) (p : Addr) (u : HO) : Sx := { H := upd s.H p u, O := fun a => s.O a ∨ a = p, ι := s.ι ++ [p] }
theorem Post.newR {K : PySem.W.Frag} {w : World} {s s1 : Sx} {μ : Sto} {ds : List D} {vs : List V} {p : Addr} (e : Ev s s1) (W : Wd K w s1 μ) (r : RepL K w s1 ds vs []) (h : s1.H p = none) :
    Post K w s (s1.shr p (.lst vs)) (μ ++ [ds]) (.ref μ.length) (.ref p) [] := by
  have hp : p ∉ s1.ι := fun z => mut_ne (W.mt p (W.sub p z)) h
  have ev : Ev s1 (s1.shr p (.lst vs)) := ⟨fun a x q _ => by show upd s1.H p _ a = _; rw [upd_ne (ne_of_none q h)]; exact q, ⟨[p], rfl, fun a ha => (show a = p by simpa using ha) ▸ h⟩,
    fun a q => .inl q, fun a q => q.elim .inl fun e => .inr (by rw [e]; exact h), fun a q => by
      have q' : upd s1.H p (.lst vs) a = none := q
      by_cases e : a = p
      · rw [e, upd_same] at q'; cases q'
      · rw [upd_ne e] at q'; exact q'⟩
  refine Post.scal (e.trans ev) ⟨fun a q => ?_, fun a q => ?_, ?_, ?_, fun n a ds' h1 h2 => ?_⟩ ⟨p, ?_, rfl, rfl⟩
  · show Mut (upd s1.H p (.lst vs) a)
    by_cases e : a = p
    · rw [e, upd_same]; exact trivial
    · rw [upd_ne e]
      rcases q with q | q
      · exact W.mt a q
      · exact absurd q e
  · rcases List.mem_append.mp (show a ∈ s1.ι ++ [p] from q) with q | q
    · exact .inl (W.sub a q)
    · exact .inr (by simpa using q)
  · exact List.nodup_append.mpr ⟨W.nd, by simp, fun a ha b hb e => hp ((show b = p by simpa using hb) ▸ e ▸ ha)⟩
  · show (s1.ι ++ [p]).length = (μ ++ [ds]).length
    simp [W.len]
  · have h1 : (s1.ι ++ [p])[n]? = some a := h1
    by_cases hn : n < s1.ι.length
    · rw [List.getElem?_append_left hn] at h1
      rw [List.getElem?_append_left (by rw [← W.len]; exact hn)] at h2
      obtain ⟨us, h3, h4⟩ := W.at_ n a ds' h1 h2
      exact ⟨us, by show upd s1.H p _ a = _; rw [upd_ne (ne_of_none h3 h)]; exact h3, ev.repL W h4⟩
    · rw [List.getElem?_append_right (by omega)] at h1
      rw [List.getElem?_append_right (by rw [← W.len]; omega)] at h2
      have e0 : n - s1.ι.length = 0 := by
        have := (List.getElem?_eq_some_iff.mp h1).1
        simp at this
        omega
      rw [e0] at h1
      rw [← W.len, e0] at h2
      cases h1
      cases h2
      exact ⟨vs, upd_same, ev.repL W r⟩
  · show (s1.ι ++ [p])[μ.length]? = some p
    rw [← W.len]
    simp
theorem ok_newRef (h : OkA C es ga) : OkE C (.List es pos) (fun ρ => M.bind (ga ρ) fun ds => guard' (decide (ds.length ≤ LINE) && D.nbL (ds.map D.fz)) fun μ => .ok (.ref μ.length) (μ ++ [ds.map D.fz])) :=
  PE_imp (pe_lst h) fun σ H Q ⟨s, ρ, own, μ, e1, p, q⟩ => ⟨s, ρ, own, μ, e1, p, q.bind.mono fun ds μ1 h1 vs s1 o ev wd r nd ow => by
    obtain ⟨g, h1⟩ := ResG.guard h1
    rw [Bool.and_eq_true] at g
    refine ⟨by rw [← line_eq, ← r.len]; exact of_decide_eq_true g.1, fun p hp => ?_⟩
    have W := wd.less fun a ha => (ow a ha).2.2
    have em : ∀ ds : List D, D.fzL ds = ds.map D.fz := by
      intro ds
      induction ds with
      | nil => rfl
      | cons d ds ih => show d.fz :: D.fzL ds = _; rw [ih]; rfl
    have r' : RepL C.K C.w (s1.less o) (ds.map D.fz) vs [] := by rw [← em]; exact RepL.fz ds vs o r fun a ha => ha
    have h2 : ∀ v s' o, Post C.K C.w s s' (μ1 ++ [ds.map D.fz]) (.ref μ1.length) v o → Q v s'.H := h1
    exact h2 (.ref p) ((s1.less o).shr p (.lst vs)) [] (Post.newR (ev.less fun a ha => (ow a ha).2.1) W r' hp)⟩
/-! empty dict; one key -/
theorem ok_dct0 : OkE C (.Dict [] [] pos) (fun _ => M.ret (.dct true [] [])) :=
  PE_imp pe_dnewK fun σ H Q ⟨s, ρ, own, μ, e1, p, q⟩ => by
    subst e1
    exact fun p' hp => q.ret (.ref p') (s.own p' (.dK (([] : List Key).zip []))) [p'] (Post.newD (ds := []) (vs := []) (ks := []) (Ev.refl s) p.wd rfl ⟨rfl, rfl⟩ hp)
def dct1K (f g : Env → M D) : Env → M D := fun ρ => M.bind (f ρ) fun k => M.bind (g ρ) fun v => match keyOf k with
      | some k => guard' v.nb (M.ret (.dct true [k] [v]))
      | none => M.bad
theorem Rep.key {K : PySem.W.Frag} {w : World} {s : Sx} {d : D} {v : V} {o : List Addr} {k : Key} (h : Rep K w s d v o) (e : keyOf d = some k) : v = kV k ∧ o = [] := by
  cases d with
  | int i => cases e; exact h
  | str i => cases e; exact h
  | _ => simp [keyOf] at e
/-! an owned object is written -/
def Sx.put (s : Sx) (p : Addr) (u : HO) : Sx := { s with H := upd s.H p u }
theorem Kp.put {K : PySem.W.Frag} {w : World} {s : Sx} {μ : Sto} {p : Addr} {u : HO} (W : Wd K w s μ) (hp : s.O p) : Kp s (s.put p u) :=
  ⟨W.mt, fun a x h n => by
    show upd s.H p u a = _
    rw [upd_ne (fun e => n (by rw [e]; exact hp))]; exact h, fun a h => .inl h, ⟨[], by simp [Sx.put], fun _ z => nomatch z⟩⟩
theorem Wd.put {K : PySem.W.Frag} {w : World} {s : Sx} {μ : Sto} {p : Addr} {u : HO} (W : Wd K w s μ) (hp : s.O p) (hn : p ∉ s.ι) (mu : Mut (some u)) : Wd K w (s.put p u) μ :=
  ⟨fun a h => by
    show Mut (upd s.H p u a)
    by_cases e : a = p
    · rw [e, upd_same]; exact mu
    · rw [upd_ne e]; exact W.mt a h, W.sub, W.nd, W.len, fun n a ds h1 h2 => by
    obtain ⟨vs, h3, h4⟩ := W.at_ n a ds h1 h2
    have e : a ≠ p := fun e => hn (by rw [← e]; exact (List.getElem?_eq_some_iff.mp h1).2 ▸ List.getElem_mem _)
    exact ⟨vs, by show upd s.H p u a = _; rw [upd_ne e]; exact h3, RepL.keep (Kp.put W hp) ds vs [] h4 fun _ z => nomatch z⟩⟩
theorem ok_dct1 (ha : OkE C a f) (hb : OkE C b g) : OkE C (.Dict [some a] [b] pos) (dct1K f g) :=
  PE_imp (pe_disp (keys := [some a]) (values := [b]) (pps_cons ha hb pps_nil) rfl rfl (List.cons_ne_nil _ _) (show (1 : Nat) ≤ 15 by decide)) fun σ H Q ⟨s, ρ, own, μ, e1, p, q⟩ => by
    subst e1
    intro P hP
    have e0 : Ev s (s.own P (.dK [])) := Ev.ownN hP
    have W0 : Wd C.K C.w (s.own P (.dK [])) μ := p.wd.ownN hP trivial
    refine ⟨s.own P (.dK []), ρ, own, μ, rfl, p.step e0 W0, q.bind.mono fun k μ1 h1 vk s1 ok pk => ?_⟩
    refine ⟨s1, ρ, own, μ1, rfl, (p.step e0 W0).step pk.ev pk.wd, h1.bind.mono fun v μ2 h2 vv s2 ov pv => ?_⟩
    cases ek : keyOf k with
    | none => rw [ek] at h2; exact h2.elim
    | some key =>
      rw [ek] at h2
      obtain ⟨nb, h2⟩ := ResG.guard h2
      have eo := Rep.nb _ _ _ pv.rep nb
      obtain ⟨evk, _⟩ := pk.rep.key ek
      have e2 := pk.ev.trans pv.ev
      have hP2 : s2.H P = some (.dK []) := e2.ext P _ upd_same fun z => mut_ne (p.wd.mt P (p.wd.sub P z)) hP
      have oP : s2.O P := e2.up P (.inr rfl)
      have nP : P ∉ s2.ι := e2.noIn (by rw [show (s.own P (.dK [])).H P = some (.dK []) from upd_same]; simp) fun z => mut_ne (p.wd.mt P (p.wd.sub P z)) hP
      refine ⟨hP2, [(key, vv)], by rw [evk]; rfl, (show (1 : Nat) ≤ 15 by decide), ?_⟩
      refine h2.ret (.ref P) (s2.put P (.dK [(key, vv)])) [P] ⟨?_, pv.wd.put oP nP trivial, ⟨P, [vv], rfl, upd_same, rfl, rfl, ?_⟩, by simp, fun a ha => ?_⟩
      · have et := e0.trans e2
        exact ⟨fun a x h n => by
          show upd s2.H P _ a = _
          rw [upd_ne (ne_of_none h hP)]; exact et.ext a x h n, et.pre, et.up, et.dn, fun a h => by
          have h : upd s2.H P _ a = none := h
          by_cases e : a = P
          · rw [e]; exact hP
          · rw [upd_ne e] at h; exact et.live a h⟩
      · rw [eo] at pv
        exact RepL.cons (Rep.keep (Kp.put pv.wd oP) _ _ _ pv.rep fun _ z => nomatch z) ⟨rfl, rfl⟩
      · have e' : a = P := by simpa using ha
        rw [e']
        exact ⟨oP, fun z => mut_ne (p.wd.mt P z) hP, nP⟩
end
/-! ### subscripts -/
theorem atI_map {α β : Type} {xs : List α} {ys : List β} {i : Int} {d : α} (hl : xs.length = ys.length) (h : atI xs i = some d) : ∃ j : Nat, xs[j]? = some d ∧ atI ys i = ys[j]? := by
  unfold atI at h ⊢
  rw [← hl]
  cases e : ixN xs.length i with
  | none => rw [e] at h; cases h
  | some j => rw [e] at h; exact ⟨j, h, rfl⟩
theorem RepL.atI {K : PySem.W.Frag} {w : World} {s : Sx} {ds : List D} {vs : List V} {i : Int} {d : D} (r : RepL K w s ds vs []) (h : L2.atI ds i = some d) : ∃ v, L2.atI vs i = some v ∧ Rep K w s d v [] := by
  obtain ⟨j, h1, h2⟩ := atI_map r.len h
  obtain ⟨v, h3, h4⟩ := r.at_ h1
  exact ⟨v, by rw [h2]; exact h3, h4⟩
theorem getD'_ok {C : Ctx} {σ : L2.St} {ds : List D} {i : Int} {μ : Sto} {F : D → Sto → Prop} (h : ResG C σ (getD' ds i μ) F) : ∃ d, L2.atI ds i = some d ∧ F d μ := by
  unfold getD' at h
  cases e : L2.atI ds i with
  | none => rw [e] at h; exact h.elim
  | some d => rw [e] at h; exact ⟨d, rfl, h⟩
def rIxAll (K : PySem.W.Frag) (w : World) : R2 := fun x y H Q => rIx K x y H Q ∨ rDIx x y H Q ∨ rIxD K w x y H Q
theorem ix_all {X : Cx} (hu : X.A.units + 64 < cLine) : IxR X (rIxAll X.K X.w) := ix_seq.or ((ix_dict (by omega)).or ix_kdict)
section
variable {C : Ctx} {σ : L2.St} {s : Sx} {μ : Sto} {x y : D} {vx vy : V} {o : List Addr} {Q : VK}
theorem kIdx (W : Wd C.K C.w s μ) (rx : RepB C.K C.w s x vx) (ry : Rep C.K C.w s y vy o) (h : ResG C σ (idxD x y μ) fun d μ' => ∀ v s' o, Post C.K C.w s s' μ' d v o → Q v s'.H) : rIxAll C.K C.w vx vy s.H Q := by
  cases x with
  | tup ds =>
    cases y with
    | int i =>
      obtain ⟨d, e, h⟩ := getD'_ok h
      obtain ⟨a, vs, ev, hq, r⟩ := rx
      obtain ⟨v, e1, e2⟩ := r.atI e
      exact .inl (.inr (.inl ⟨a, vs, i, v, ev, ry.1, hq, e1, nil_post W e2 h⟩))
    | _ => exact h.elim
  | lst b ds =>
    cases y with
    | int i =>
      obtain ⟨d, e, h⟩ := getD'_ok h
      obtain ⟨a, vs, ev, hq, r⟩ := rx
      obtain ⟨v, e1, e2⟩ := r.atI e
      exact .inl (.inl ⟨a, vs, i, v, ev, ry.1, hq.sq, e1, nil_post W e2 h⟩)
    | _ => exact h.elim
  | ref n =>
    cases y with
    | int i =>
      obtain ⟨a, en, ev, _⟩ := rx
      have h : ResG C σ (match μ[n]? with | some ds => getD' ds i μ | none => .bad) fun d μ' => ∀ v s' o, Post C.K C.w s s' μ' d v o → Q v s'.H := h
      cases em : μ[n]? with
      | none => rw [em] at h; exact h.elim
      | some ds =>
        rw [em] at h
        obtain ⟨d, e, h⟩ := getD'_ok h
        obtain ⟨vs, hq, r⟩ := W.at_ n a ds en em
        obtain ⟨v, e1, e2⟩ := r.atI e
        exact .inl (.inl ⟨a, vs, i, v, ev, ry.1, .of hq, e1, nil_post W e2 h⟩)
    | _ => exact h.elim
  | dct b ks ds =>
    cases b with
    | true =>
      have h : ResG C σ ((match keyOf y with | some k => ofO (kget ks ds k) | none => M.bad : M D) μ) fun d μ' => ∀ v s' o, Post C.K C.w s s' μ' d v o → Q v s'.H := h
      cases ek : keyOf y with
      | none => rw [ek] at h; exact h.elim
      | some k =>
        rw [ek] at h
        obtain ⟨d, e, h⟩ := h.ofO
        obtain ⟨a, vs, ev, hq, l, r⟩ := rx
        have z := kget_rep (q := k) r l
        rw [e] at z
        obtain ⟨v, e1, e2⟩ := z
        exact .inr (.inl ⟨a, v, ev, .inl ⟨_, k, hq.1, (ry.key ek).1, e1.symm⟩, nil_post W e2 h⟩)
    | false =>
      cases y with
      | str z0 =>
        obtain ⟨d, e, h⟩ := (show ResG C σ (ofO (kget ks ds (.inr z0)) μ) _ from h).ofO
        obtain ⟨a, vs, ev, hq, eo, l, r⟩ := rx
        have z := kget_rep (q := .inr z0) r l
        rw [e] at z
        obtain ⟨v, e1, e2⟩ := z
        rcases hq with hq | ⟨es, n, kd, hk⟩
        · exact .inr (.inl ⟨a, v, ev, .inl ⟨_, .inr z0, hq.1, ry.1, e1.symm⟩, nil_post W e2 h⟩)
        · have hk := hk z0
          rw [e1] at hk
          obtain ⟨u, h1, h2⟩ := hk
          exact .inr (.inr ⟨a, z0, v, ev, ry.1, ⟨es, n, u, kd.at_, kd.lit, h1, h2⟩, nil_post W e2 h⟩)
      | _ => exact h.elim
  | non => exact h.elim
  | bl _ => exact h.elim
  | int _ => exact h.elim
  | str _ => exact h.elim
  | exn _ _ => exact h.elim
end
section
variable {C : Ctx} {e a b : Expr} {f g : Env → M D} {pos : Pos}
/-- the second as it is -/
theorem rd_twoE {R : V → V → Hp → VK → Prop} (k : D → D → M D) {σ : L2.St} {H : Hp} {Q : VK}
    (hk : ∀ σ s μ x y vx vy o Q, Wd C.K C.w s μ → RepB C.K C.w s x vx → Rep C.K C.w s y vy o → ResG C σ (k x y μ) (fun d μ' => ∀ v s' o, Post C.K C.w s s' μ' d v o → Q v s'.H) → R vx vy s.H Q)
    (hh : tD C (fun ρ => M.bind (f ρ) fun x => M.bind (g ρ) fun y => k x y) σ H Q) : tOp R (tDB C f) (tD C g) σ H Q := by
  obtain ⟨s, ρ, own, μ, e1, p, q⟩ := hh
  refine ⟨s, ρ, own, μ, e1, p, q.bind.mono fun x μ1 h1 vx s1 p1 => ?_⟩
  refine ⟨s1, ρ, own, μ1, rfl, p.step p1.ev p1.wd, h1.bind.mono fun y μ2 h2 vy s2 o p2 => ?_⟩
  exact hk σ s2 μ2 x y vx vy o Q p2.wd (p2.ev.repB p1.wd p1.rep) p2.rep (h2.mono fun d μ' h3 v s' o po => h3 v s' o (po.tr (p1.ev.trans p2.ev)))
theorem ok_idx (hu : C.X.A.units + 64 < cLine) (ha : OkB C a f) (hb : OkE C b g) (hs : notSlice b = true) : OkE C (.Subscript a b pos) (fun ρ => M.bind (f ρ) fun x => M.bind (g ρ) fun y => idxD x y) :=
  PE_imp (pe_ix (ix_all hu) ha hb (notSlice_ok hs)) fun σ H Q q => rd_twoE _ (fun σ s μ x y vx vy o Q W rx ry h => kIdx W rx ry h) q
end
end Vf

/-! V7 -/
set_option autoImplicit false
set_option linter.all false
set_option Elab.async false
set_option maxHeartbeats 1000000
/-! V7: slices, built-ins, calls. -/
namespace Vf
open PySem PySem.Spec PyProof.Rows L2

section
variable {K : PySem.W.Frag} {w : World} {s : Sx}
theorem RepL.drop : ∀ {ds : List D} {vs : List V} (n : Nat), RepL K w s ds vs [] → RepL K w s (ds.drop n) (vs.drop n) []
  | _, _, 0, h => by simpa using h
  | [], vs, n + 1, h => by
    obtain ⟨rfl, _⟩ := h
    exact ⟨rfl, rfl⟩
  | d :: ds, vs, n + 1, h => by
    obtain ⟨v, vs', e, r1, r2⟩ := h.cons_of
    subst e
    exact RepL.drop n r2
theorem RepL.take : ∀ {ds : List D} {vs : List V} (n : Nat), RepL K w s ds vs [] → RepL K w s (ds.take n) (vs.take n) []
  | ds, vs, 0, h => ⟨by simp, rfl⟩
  | [], vs, n + 1, h => by
    obtain ⟨rfl, _⟩ := h
    exact ⟨rfl, rfl⟩
  | d :: ds, vs, n + 1, h => by
    obtain ⟨v, vs', e, r1, r2⟩ := h.cons_of
    subst e
    exact RepL.cons r1 (RepL.take n r2)
theorem RepL.cut {ds : List D} {vs : List V} (lo hi : Option Int) (h : RepL K w s ds vs []) : RepL K w s (cutD ds lo hi) (cutV vs lo hi) [] := by
  unfold cutD cutV
  rw [h.len]
  exact (h.drop _).take _
theorem RepL.rev : ∀ {ds : List D} {vs : List V}, RepL K w s ds vs [] → RepL K w s ds.reverse vs.reverse []
  | [], vs, h => by
    obtain ⟨rfl, _⟩ := h
    exact ⟨rfl, rfl⟩
  | d :: ds, vs, h => by
    obtain ⟨v, vs', e, r1, r2⟩ := h.cons_of
    subst e
    rw [List.reverse_cons, List.reverse_cons]
    exact RepL.append (RepL.rev r2) (RepL.cons r1 ⟨rfl, rfl⟩)
end
/-! ### slices -/
def tDO (C : Ctx) (f : Env → M (Option Int)) : TO := fun σ H Q => ∃ s ρ own μ, s.H = H ∧ Pre C s ρ σ own μ ∧ ResG C σ (f ρ μ) fun oi μ' => ∀ s', Ev s s' → Wd C.K C.w s' μ' → Q oi s'.H
abbrev OkO (C : Ctx) (e : Option Expr) (f : Env → M (Option Int)) : Prop := PO C.X e (tDO C f)
theorem PO_imp {X : Cx} {e : Option Expr} {t t' : TO} (h : PO X e t) (i : ∀ σ H Q, t' σ H Q → t σ H Q) : PO X e t' := ⟨fun pins s σ H Q I q => h.run pins s σ H Q I (i σ H Q q)⟩
section
variable {C : Ctx} {e a b : Expr} {es : List Expr} {f g : Env → M D} {fl fh : Env → M (Option Int)} {pos p2 : Pos} {lo hi : Option Expr}
theorem ok_onone : OkO C none (fun _ => M.ret none) := PO_imp po_none fun σ H Q ⟨s, ρ, own, μ, e1, p, q⟩ => by
  show Q none H
  rw [← e1]
  exact q.ret s (Ev.refl s) p.wd
def osomeK (f : Env → M D) : Env → M (Option Int) := fun ρ => M.bind (f ρ) fun | .int i => M.ret (some i) | _ => M.bad
theorem ok_osome (h : OkE C e f) : OkO C (some e) (osomeK f) := PO_imp (po_some h) fun σ H Q ⟨s, ρ, own, μ, e1, p, q⟩ => ⟨s, ρ, own, μ, e1, p, q.bind.mono fun d μ1 h1 v s1 o po => by
  cases d with
  | int i => exact ⟨i, po.rep.1, h1.ret s1 po.ev po.wd⟩
  | _ => exact h1.elim⟩
theorem cut_all {α : Type} {xs : List α} {lo hi : Option Int} (h : HT.sIx xs.length 0 lo = 0 ∧ HT.sIx xs.length xs.length hi = xs.length) : (xs.drop (HT.sIx xs.length 0 lo)).take (HT.sIx xs.length xs.length hi - HT.sIx xs.length 0 lo) = xs := by
  rw [h.1, h.2]; simp
theorem ok_slc (ha : OkB C a f) (hl : OkO C lo fl) (hh : OkO C hi fh) : OkE C (.Subscript a (.Slice lo hi none p2) pos) (fun ρ => M.bind (f ρ) fun x => M.bind (fl ρ) fun l => M.bind (fh ρ) fun h => slcD x l h) :=
  PE_imp (pe_slice (sl_list.or sl_tupA) ha hl hh) fun σ H Q ⟨s, ρ, own, μ, e1, p, q⟩ => ⟨s, ρ, own, μ, e1, p, q.bind.mono fun x μ1 h1 v s1 p1 =>
    ⟨s1, ρ, own, μ1, rfl, p.step p1.ev p1.wd, h1.bind.mono fun l μ2 h2 s2 ev2 wd2 =>
      ⟨s2, ρ, own, μ2, rfl, (p.step p1.ev p1.wd).step ev2 wd2, h2.bind.mono fun h μ3 h3 s3 ev3 wd3 => by
        have rx := (ev2.trans ev3).repB p1.wd p1.rep
        have et := p1.ev.trans (ev2.trans ev3)
        cases x with
        | tup ds =>
          have h3 : ResG C σ (M.ret (D.tup (cutD ds l h)) μ3) _ := h3
          obtain ⟨a, vs, ev, hq, r⟩ := rx
          refine .inr ⟨a, vs, ev, hq, fun hw => ?_, fun hw p' hp => h3.ret (.ref p') (s3.tup p' (.tup (cutV vs l h))) [] (Post.newT et wd3 (r.cut l h) List.nodup_nil (fun _ z => nomatch z) hp)⟩
          have e : cutD ds l h = ds := cut_all (by rw [r.len]; exact hw)
          rw [e] at h3
          exact h3.ret (.ref a) s3 [] (Post.scal et wd3 ⟨a, vs, rfl, hq, r⟩)
        | lst b ds =>
          have h3 : ResG C σ (M.ret (D.lst true (cutD ds l h)) μ3) _ := h3
          obtain ⟨a, vs, ev, hq, r⟩ := rx
          exact .inl ⟨a, vs, ev, hq.sq, fun p' hp => h3.ret (.ref p') (s3.own p' (.lst (cutV vs l h))) [p'] (Post.newL et wd3 (r.cut l h) List.nodup_nil (fun _ z => nomatch z) hp)⟩
        | _ => exact h3.elim⟩⟩⟩
def revK (f : Env → M D) : Env → M D := fun ρ => M.bind (f ρ) fun
    | .lst _ ds => M.ret (.lst true ds.reverse)
    | _ => M.bad
theorem ok_rev {k : Nat} {p1 p2 p3 : Pos} (ha : OkB C a f) : OkE C (.Subscript a (.Slice none none (some (.UnaryOp .USub (.Constant (.int 1) k p1) p2)) p3) pos) (revK f) :=
  PE_imp (pe_revL ha) fun σ H Q ⟨s, ρ, own, μ, e1, p, q⟩ => ⟨s, ρ, own, μ, e1, p, q.bind.mono fun x μ1 h1 v s1 p1 => by
    cases x with
    | lst b ds =>
      obtain ⟨a, vs, ev, hq, r⟩ := p1.rep
      exact ⟨a, vs, ev, hq.sq, fun p' hp => h1.ret (.ref p') (s1.own p' (.lst vs.reverse)) [p'] (Post.newL p1.ev p1.wd r.rev List.nodup_nil (fun _ z => nomatch z) hp)⟩
    | _ => exact h1.elim⟩
def negK (f : Env → M D) : Env → M D := fun ρ => M.bind (f ρ) fun | .int i => M.ret (.int (-i)) | _ => M.bad
theorem ok_neg (ha : OkE C a f) : OkE C (.UnaryOp .USub a pos) (negK f) :=
  PE_imp (pe_un un_neg ha) fun σ H Q ⟨s, ρ, own, μ, e1, p, q⟩ => ⟨s, ρ, own, μ, e1, p, q.bind.mono fun x μ1 h1 v s1 o p1 => by
    cases x with
    | int i => exact ⟨i, p1.rep.1, h1.ret (.int (-i)) s1 [] (Post.scal p1.ev p1.wd ⟨rfl, rfl⟩)⟩
    | _ => exact h1.elim⟩
/-! ### built-ins with one argument -/
theorem ok_blt {x : Str} {id : String} {p : Pos} {r : List V → Hp → VK → Prop} (k : D → M D) (hc : CallR C.X (.builtin id) r) (hg : Gl C.X x) (hm : C.X.mg x = none) (hv : bootBuiltins x = some (.builtin id)) (hn : x ≠ "__name__") (hdb : (x == ("__debug__" : Str)) = false)
    (ha : OkB C e f) (hs : notStar e = true)
    (hk : ∀ σ s μ x vx Q, Wd C.K C.w s μ → RepB C.K C.w s x vx → ResG C σ (k x μ) (fun d μ' => ∀ v s' o, Post C.K C.w s s' μ' d v o → Q v s'.H) → r [vx] s.H Q) :
    OkE C (.Call (.Name x p) [e] [] pos) (fun ρ => M.bind (f ρ) k) :=
  PE_imp (pe_callB hc hg hm hv (pa_cons ha pa_nil (notStar_ok hs [] _)) hn hdb (notStar_ok hs [] _) (noStars (es := []) rfl _ _)) fun σ H Q ⟨s, ρ, own, μ, e1, p, q⟩ => ⟨s, ρ, own, μ, e1, p, q.bind.mono fun x μ1 h1 vx s1 p1 =>
    hk σ s1 μ1 x vx Q p1.wd p1.rep (ResG.mono h1 fun d μ' h3 v s' o po => h3 v s' o (po.tr p1.ev))⟩
theorem ok_bltT {x : Str} {T : String} {p : Pos} {r : List V → Hp → VK → Prop} (k : D → M D) (hc : CallR C.X (.type T) r) (hg : Gl C.X x) (hm : C.X.mg x = none) (hv : bootBuiltins x = some (.type T)) (hn : x ≠ "__name__") (hdb : (x == ("__debug__" : Str)) = false)
    (ha : OkB C e f) (hs : notStar e = true)
    (hk : ∀ σ s μ x vx Q, Wd C.K C.w s μ → RepB C.K C.w s x vx → ResG C σ (k x μ) (fun d μ' => ∀ v s' o, Post C.K C.w s s' μ' d v o → Q v s'.H) → r [vx] s.H Q) :
    OkE C (.Call (.Name x p) [e] [] pos) (fun ρ => M.bind (f ρ) k) :=
  PE_imp (pe_callTy hc hg hm hv (pa_cons ha pa_nil (notStar_ok hs [] _)) hn hdb (notStar_ok hs [] _) (noStars (es := []) rfl _ _)) fun σ H Q ⟨s, ρ, own, μ, e1, p, q⟩ => ⟨s, ρ, own, μ, e1, p, q.bind.mono fun x μ1 h1 vx s1 p1 =>
    hk σ s1 μ1 x vx Q p1.wd p1.rep (ResG.mono h1 fun d μ' h3 v s' o po => h3 v s' o (po.tr p1.ev))⟩
end
theorem dBools_rep {K : PySem.W.Frag} {w : World} {s : Sx} : ∀ {ds : List D} {vs : List V} {bs : List Bool}, RepL K w s ds vs [] → dBools ds = some bs → vs = bs.map V.bl
  | [], vs, bs, h, e => by
    obtain ⟨rfl, _⟩ := h
    cases e; rfl
  | d :: ds, vs, bs, h, e => by
    obtain ⟨v, vs', ev, r1, r2⟩ := h.cons_of
    subst ev
    cases d with
    | bl b =>
      obtain ⟨cs, e1, e2⟩ := Option.map_eq_some_iff.mp (show (dBools ds).map (b :: ·) = some bs from e)
      subst e2
      rw [dBools_rep r2 e1, r1.1]
      rfl
    | _ => simp [dBools] at e
theorem dInts_rep {K : PySem.W.Frag} {w : World} {s : Sx} : ∀ {ds : List D} {vs : List V} {bs : List Int}, RepL K w s ds vs [] → dInts ds = some bs → vs = bs.map V.int
  | [], vs, bs, h, e => by
    obtain ⟨rfl, _⟩ := h
    cases e; rfl
  | d :: ds, vs, bs, h, e => by
    obtain ⟨v, vs', ev, r1, r2⟩ := h.cons_of
    subst ev
    cases d with
    | int b =>
      obtain ⟨cs, e1, e2⟩ := Option.map_eq_some_iff.mp (show (dInts ds).map (b :: ·) = some bs from e)
      subst e2
      rw [dInts_rep r2 e1, r1.1]
      rfl
    | _ => simp [dInts] at e
theorem ints_rep {K : PySem.W.Frag} {w : World} {s : Sx} : ∀ (ns : List Int), RepL K w s (ns.map D.int) (ns.map V.int) []
  | [] => ⟨rfl, rfl⟩
  | n :: ns => RepL.cons ⟨rfl, rfl⟩ (ints_rep ns)
theorem ins_perm (x : Int) : ∀ xs : List Int, (ins x xs).Perm (x :: xs)
  | [] => .refl _
  | y :: r => by
    unfold ins
    by_cases h : x ≤ y
    · rw [if_pos h]
    · rw [if_neg h]
      exact ((ins_perm x r).cons y).trans (.swap x y r)
theorem isort_perm : ∀ xs : List Int, (isort xs).Perm xs
  | [] => .refl _
  | x :: r => (ins_perm x (isort r)).trans ((isort_perm r).cons x)
theorem ins_srt (x : Int) : ∀ xs : List Int, xs.Pairwise (· ≤ ·) → (ins x xs).Pairwise (· ≤ ·)
  | [], _ => by simp [ins]
  | y :: r, h => by
    unfold ins
    have h' := List.pairwise_cons.mp h
    by_cases hx : x ≤ y
    · rw [if_pos hx]
      exact List.pairwise_cons.mpr ⟨fun z hz => by
        rcases List.mem_cons.mp hz with rfl | hz
        · exact hx
        · exact Int.le_trans hx (h'.1 z hz), h⟩
    · rw [if_neg hx]
      exact List.pairwise_cons.mpr ⟨fun z hz => by
        rcases List.mem_cons.mp ((ins_perm x r).mem_iff.mp hz) with rfl | hz
        · omega
        · exact h'.1 z hz, ins_srt x r h'.2⟩
theorem isort_srt : ∀ xs : List Int, (isort xs).Pairwise (· ≤ ·)
  | [] => .nil
  | x :: r => ins_srt x _ (isort_srt r)
theorem srt_uniq : ∀ {xs ys : List Int}, xs.Perm ys → xs.Pairwise (· ≤ ·) → ys.Pairwise (· ≤ ·) → xs = ys
  | [], ys, h, _, _ => (List.Perm.nil_eq h)
  | x :: xs, [], h, _, _ => by simpa using h.length_eq
  | x :: xs, y :: ys, h, h1, h2 => by
    have a := List.pairwise_cons.mp h1
    have b := List.pairwise_cons.mp h2
    have e : x = y := by
      have m1 : x ∈ y :: ys := h.mem_iff.mp List.mem_cons_self
      have m2 : y ∈ x :: xs := h.mem_iff.mpr List.mem_cons_self
      rcases List.mem_cons.mp m1 with e | m1
      · exact e
      · rcases List.mem_cons.mp m2 with e | m2
        · exact e.symm
        · have := a.1 y m2; have := b.1 x m1; omega
    subst e
    rw [srt_uniq ((List.perm_cons x).mp h) a.2 b.2]
theorem isort_uniq {xs ys : List Int} (h : ys.Perm xs) (s : ys.Pairwise (· ≤ ·)) : ys = isort xs := srt_uniq (h.trans (isort_perm xs).symm) s (isort_srt xs)
/-! the built-ins -/
section
variable {C : Ctx} {σ : L2.St} {s : Sx} {μ : Sto} {x : D} {vx : V} {Q : VK}
theorem kLen (W : Wd C.K C.w s μ) (rx : RepB C.K C.w s x vx) (h : ResG C σ (bltD .len x μ) fun d μ' => ∀ v s' o, Post C.K C.w s s' μ' d v o → Q v s'.H) : ∃ x n, [vx] = [x] ∧ LenV C.K x s.H n ∧ Q (.int n) s.H := by
  cases x with
  | lst b ds =>
    obtain ⟨a, vs, ev, hq, r⟩ := rx
    refine ⟨vx, ds.length, rfl, ?_, nil_post (d := .int ds.length) W ⟨rfl, rfl⟩ h.ret⟩
    rw [ev]; exact .inl ⟨vs, hq.sq, r.len⟩
  | tup ds =>
    obtain ⟨a, vs, ev, hq, r⟩ := rx
    refine ⟨vx, ds.length, rfl, ?_, nil_post (d := .int ds.length) W ⟨rfl, rfl⟩ h.ret⟩
    rw [ev]; exact .inr ⟨vs, hq, r.len⟩
  | str z =>
    obtain ⟨g, h⟩ := ResG.guard h
    refine ⟨vx, z.length, rfl, ?_, nil_post (d := .int z.length) W ⟨rfl, rfl⟩ h.ret⟩
    rw [rx.1]; exact ⟨by rw [← line_eq]; exact of_decide_eq_true g, rfl⟩
  | ref n =>
    obtain ⟨a, en, ev, _⟩ := rx
    have h : ResG C σ (match μ[n]? with | some ds => .ok (.int ds.length) μ | none => .bad) fun d μ' => ∀ v s' o, Post C.K C.w s s' μ' d v o → Q v s'.H := h
    cases em : μ[n]? with
    | none => rw [em] at h; exact h.elim
    | some ds =>
      rw [em] at h
      obtain ⟨vs, hq, r⟩ := W.at_ n a ds en em
      refine ⟨vx, ds.length, rfl, ?_, nil_post (d := .int ds.length) W ⟨rfl, rfl⟩ h⟩
      rw [ev]; exact .inl ⟨vs, .of hq, r.len⟩
  | _ => exact h.elim
theorem kAll (W : Wd C.K C.w s μ) (rx : RepB C.K C.w s x vx) (h : ResG C σ (bltD .all x μ) fun d μ' => ∀ v s' o, Post C.K C.w s s' μ' d v o → Q v s'.H) : rAll C.K [vx] s.H Q := by
  cases x with
  | lst b ds =>
    obtain ⟨a, vs, ev, hq, r⟩ := rx
    obtain ⟨d, e, h⟩ := (show ResG C σ (ofO ((dBools ds).map fun bs => D.bl (bs.all id)) μ) _ from h).ofO
    obtain ⟨bs, e1, e2⟩ := Option.map_eq_some_iff.mp e
    subst e2
    have evs := dBools_rep r e1
    subst evs
    exact ⟨a, bs, by rw [ev], hq.sq, nil_post (d := .bl (bs.all id)) W ⟨rfl, rfl⟩ h⟩
  | _ => exact h.elim
theorem kAny (W : Wd C.K C.w s μ) (rx : RepB C.K C.w s x vx) (h : ResG C σ (bltD .any x μ) fun d μ' => ∀ v s' o, Post C.K C.w s s' μ' d v o → Q v s'.H) : rAny C.K [vx] s.H Q := by
  cases x with
  | lst b ds =>
    obtain ⟨a, vs, ev, hq, r⟩ := rx
    obtain ⟨d, e, h⟩ := (show ResG C σ (ofO ((dBools ds).map fun bs => D.bl (bs.any id)) μ) _ from h).ofO
    obtain ⟨bs, e1, e2⟩ := Option.map_eq_some_iff.mp e
    subst e2
    have evs := dBools_rep r e1
    subst evs
    exact ⟨a, bs, by rw [ev], hq.sq, nil_post (d := .bl (bs.any id)) W ⟨rfl, rfl⟩ h⟩
  | _ => exact h.elim
theorem kSum (W : Wd C.K C.w s μ) (rx : RepB C.K C.w s x vx) (h : ResG C σ (bltD .sum x μ) fun d μ' => ∀ v s' o, Post C.K C.w s s' μ' d v o → Q v s'.H) : rSum C.K [vx] s.H Q := by
  cases x with
  | lst b ds =>
    obtain ⟨a, vs, ev, hq, r⟩ := rx
    obtain ⟨d, e, h⟩ := (show ResG C σ (ofO ((dInts ds).map fun is => D.int is.sum) μ) _ from h).ofO
    obtain ⟨bs, e1, e2⟩ := Option.map_eq_some_iff.mp e
    subst e2
    have evs := dInts_rep r e1
    subst evs
    exact ⟨a, bs, by rw [ev], hq.sq, nil_post (d := .int bs.sum) W ⟨rfl, rfl⟩ h⟩
  | _ => exact h.elim
theorem keyInts_of : ∀ {ks : List Key} {is : List Int}, keyInts ks = some is → ks = is.map Sum.inl
  | [], _, e => by cases e; rfl
  | .inl i :: ks, is, e => by
    obtain ⟨r, e1, e2⟩ := Option.map_eq_some_iff.mp (show (keyInts ks).map (i :: ·) = some is from e)
    subst e2
    rw [keyInts_of e1]; rfl
  | .inr _ :: _, _, e => by simp [keyInts] at e
def rSortAll (K : PySem.W.Frag) : List V → Hp → VK → Prop := fun xs H Q => rSortedI K xs H Q ∨ ∃ (a : Addr) (kvs : List (Key × V)) (ks : List Int), xs = [.ref a] ∧ Rd H a (.dK kvs) ∧ kvs.map (·.1) = ks.map Sum.inl ∧ ks.length < 64 ∧
    ∀ (ys : List Int) (p : Addr), ys.Perm ks → ys.Pairwise (· ≤ ·) → H p = none → Q (.ref p) (upd H p (.lst (ys.map V.int)))
theorem cr_sortAll {X : Cx} (hc : X.calm = true) : CallR X (.builtin "sorted") (rSortAll X.K) := cr_sortedI.or (call_sortedDI hc)
theorem kSorted (W : Wd C.K C.w s μ) (rx : RepB C.K C.w s x vx) (h : ResG C σ (bltD .sorted x μ) fun d μ' => ∀ v s' o, Post C.K C.w s s' μ' d v o → Q v s'.H) : rSortAll C.K [vx] s.H Q := by
  cases x with
  | lst b ds =>
    obtain ⟨a, vs, ev, hq, r⟩ := rx
    obtain ⟨d, e, h⟩ := (show ResG C σ (ofO ((dInts ds).map fun is => D.lst true ((isort is).map .int)) μ) _ from h).ofO
    obtain ⟨bs, e1, e2⟩ := Option.map_eq_some_iff.mp e
    subst e2
    have evs := dInts_rep r e1
    subst evs
    refine .inl ⟨a, bs, by rw [ev], hq.sq, fun ns p hp hs hn => ?_⟩
    have en := isort_uniq hp hs
    subst en
    exact h (.ref p) (s.own p (.lst ((isort bs).map V.int))) [p] (Post.newL (Ev.refl s) W (ints_rep _) List.nodup_nil (fun _ z => nomatch z) hn)
  | dct o ks ds =>
    cases o with
    | false => exact h.elim
    | true =>
      obtain ⟨a, vs, ev, hq, l, r⟩ := rx
      obtain ⟨g, h⟩ := (show ResG C σ (guard' (decide (ks.length < 64)) (ofO ((keyInts ks).map fun is => D.lst true ((isort is).map .int))) μ) _ from h).guard
      obtain ⟨d, e, h⟩ := h.ofO
      obtain ⟨bs, e1, e2⟩ := Option.map_eq_some_iff.mp e
      subst e2
      have ek := keyInts_of e1
      have el : ks.length = bs.length := by rw [ek, List.length_map]
      refine .inr ⟨a, ks.zip vs, bs, by rw [ev], hq.1, ?_, by rw [← el]; exact of_decide_eq_true g, fun ns p hp hs hn => ?_⟩
      · rw [← ek]
        exact List.map_fst_zip (by rw [← r.len, l]; exact Nat.le_refl _)
      · have en := isort_uniq hp hs
        subst en
        exact h (.ref p) (s.own p (.lst ((isort bs).map V.int))) [p] (Post.newL (Ev.refl s) W (ints_rep _) List.nodup_nil (fun _ z => nomatch z) hn)
  | _ => exact h.elim
theorem kList (W : Wd C.K C.w s μ) (rx : RepB C.K C.w s x vx) (h : ResG C σ (bltD .list x μ) fun d μ' => ∀ v s' o, Post C.K C.w s s' μ' d v o → Q v s'.H) :
    ∃ p ys, [vx] = [.ref p] ∧ (SqL C.K s.H p ys ∨ SqT C.K s.H p ys) ∧ ∀ l, s.H l = none → Q (.ref l) (upd s.H l (.lst ys)) := by
  cases x with
  | lst b ds =>
    obtain ⟨a, vs, ev, hq, r⟩ := rx
    exact ⟨a, vs, by rw [ev], .inl hq.sq, fun p hn => h.ret (.ref p) (s.own p (.lst vs)) [p] (Post.newL (Ev.refl s) W r List.nodup_nil (fun _ z => nomatch z) hn)⟩
  | tup ds =>
    obtain ⟨a, vs, ev, hq, r⟩ := rx
    exact ⟨a, vs, by rw [ev], .inr hq, fun p hn => h.ret (.ref p) (s.own p (.lst vs)) [p] (Post.newL (Ev.refl s) W r List.nodup_nil (fun _ z => nomatch z) hn)⟩
  | _ => exact h.elim
theorem kTuple (W : Wd C.K C.w s μ) (rx : RepB C.K C.w s x vx) (h : ResG C σ (bltD .tuple x μ) fun d μ' => ∀ v s' o, Post C.K C.w s s' μ' d v o → Q v s'.H) :
    ∃ p ys, [vx] = [.ref p] ∧ ((SqL C.K s.H p ys ∧ ∀ l, s.H l = none → Q (.ref l) (upd s.H l (.tup ys))) ∨ (SqT C.K s.H p ys ∧ Q (.ref p) s.H)) := by
  cases x with
  | lst b ds =>
    obtain ⟨a, vs, ev, hq, r⟩ := rx
    exact ⟨a, vs, by rw [ev], .inl ⟨hq.sq, fun p hn => h.ret (.ref p) (s.tup p (.tup vs)) [] (Post.newT (Ev.refl s) W r List.nodup_nil (fun _ z => nomatch z) hn)⟩⟩
  | tup ds =>
    obtain ⟨a, vs, ev, hq, r⟩ := rx
    exact ⟨a, vs, by rw [ev], .inr ⟨hq, nil_post (d := .tup ds) W ⟨a, vs, rfl, hq, r⟩ h.ret⟩⟩
  | _ => exact h.elim
theorem kInt (W : Wd C.K C.w s μ) (rx : RepB C.K C.w s x vx) (h : ResG C σ (bltD .int x μ) fun d μ' => ∀ v s' o, Post C.K C.w s s' μ' d v o → Q v s'.H) :
    (∃ i, [vx] = [.int i] ∧ Q (.int i) s.H) ∨ ∃ k, [vx] = [.bl k] ∧ Q (.int (if k then 1 else 0)) s.H := by
  cases x with
  | int i => exact .inl ⟨i, by rw [rx.1], nil_post (d := .int i) W ⟨rfl, rfl⟩ h.ret⟩
  | bl k => exact .inr ⟨k, by rw [rx.1], nil_post (d := .int (if k then 1 else 0)) W ⟨rfl, rfl⟩ h.ret⟩
  | _ => exact h.elim
theorem kAbs (W : Wd C.K C.w s μ) (rx : RepB C.K C.w s x vx) (h : ResG C σ (bltD .abs x μ) fun d μ' => ∀ v s' o, Post C.K C.w s s' μ' d v o → Q v s'.H) :
    ∃ i, [vx] = [.int i] ∧ Q (.int (if i < 0 then -i else i)) s.H := by
  cases x with
  | int i => exact ⟨i, by rw [rx.1], nil_post (d := .int (if i < 0 then -i else i)) W ⟨rfl, rfl⟩ h.ret⟩
  | _ => exact h.elim
theorem kStr (W : Wd C.K C.w s μ) (rx : RepB C.K C.w s x vx) (h : ResG C σ (bltD .str x μ) fun d μ' => ∀ v s' o, Post C.K C.w s s' μ' d v o → Q v s'.H) :
    ∃ i, [vx] = [.int i] ∧ i.natAbs.log2 < 1920 ∧ Q (.str (toString i)) s.H := by
  cases x with
  | int i =>
    obtain ⟨g, h⟩ := ResG.guard h
    exact ⟨i, by rw [rx.1], of_decide_eq_true g, nil_post (d := .str (toString i)) W ⟨rfl, rfl⟩ h.ret⟩
  | _ => exact h.elim
end
/-! ### isinstance -/
def tyN : Ty → String
  | .int => "int" | .bool => "bool" | .str => "str" | .list => "list" | .tuple => "tuple" | .dict => "dict"
def tyD : D → String
  | .non => "NoneType" | .bl _ => "bool" | .int _ => "int" | .str _ => "str" | .tup _ => "tuple" | .lst _ _ => "list" | .dct _ _ _ => "dict" | _ => ""
theorem kit_all (x : D) (h : hasTy x = true) (t : Ty) : kitB (tyD x) (tyN t) = some (isTy x t) := by
  cases x <;> first | (cases h; done) | (cases t <;> dsimp only [tyD, tyN, isTy] <;> decide +kernel)
theorem rd_lst_ty {K : PySem.W.Frag} {H : Hp} {a : Addr} {vs : List V} (h : Rd H a (.lst vs)) : TyX K H (.ref a) (.type "list") := by
  rcases h with h | ⟨o, h⟩
  · exact .base (.lst h)
  · exact .base (.frz h)
theorem rdL_ty {K : PySem.W.Frag} {s : Sx} {a : Addr} {vs : List V} (h : RdL K s a vs) : TyX K s.H (.ref a) (.type "list") := by
  rcases h with h | ⟨o, its, n, hk, hc, _⟩
  · exact rd_lst_ty h.1
  · exact .kList hk hc
theorem rd_dk_ty {K : PySem.W.Frag} {H : Hp} {a : Addr} {vs : List (Key × V)} (h : Rd H a (.dK vs)) : TyX K H (.ref a) (.type "dict") := by
  rcases h with h | ⟨o, h⟩
  · exact .base (.dK h)
  · exact .fDict h
theorem RepB.ty {K : PySem.W.Frag} {w : World} {s : Sx} {x : D} {v : V} (h : RepB K w s x v) (g : hasTy x = true) : TyX K s.H v (.type (tyD x)) := by
  cases x with
  | non => rw [h.1]; exact .base .non
  | bl b => rw [h.1]; exact .base (.bl b)
  | int b => rw [h.1]; exact .base (.int b)
  | str b => rw [h.1]; exact .base (.str b)
  | tup ds =>
    obtain ⟨a, vs, ev, hq, r⟩ := h
    rw [ev]
    rcases hq with (hq | ⟨o, hq⟩) | ⟨o, its, n, hk, hc, _⟩
    · exact .base (.tup hq)
    · exact .fTuple hq
    · exact .kTuple hk hc
  | lst b ds =>
    obtain ⟨a, vs, ev, hq, r⟩ := h
    rw [ev]
    exact rdL_ty hq
  | dct b ks ds =>
    cases b with
    | true =>
      obtain ⟨a, vs, ev, hq, l, r⟩ := h
      rw [ev]
      exact rd_dk_ty hq.1
    | false =>
      obtain ⟨a, vs, ev, hq, eo, l, r⟩ := h
      rw [ev]
      rcases hq with hq | ⟨es, n, kd, _⟩
      · exact rd_dk_ty hq.1
      · exact .kDict kd.at_ rfl
  | ref _ => cases g
  | exn _ _ => cases g
section
variable {C : Ctx} {e a b : Expr} {es : List Expr} {f g : Env → M D} {pos p p2 : Pos}
theorem boot_ty (t : Ty) : bootBuiltins (Str.ofString (tyN t)) = some (.type (tyN t)) := by cases t <;> decide +kernel
def isiK (t : Ty) (g : Env → M D) : Env → M D := fun ρ => M.bind (g ρ) fun x => guard' (hasTy x) (M.ret (.bl (isTy x t)))
theorem ok_isi (t : Ty) (hg : Gl C.X "isinstance") (hm : C.X.mg "isinstance" = none) (hg2 : Gl C.X (Str.ofString (tyN t))) (hm2 : C.X.mg (Str.ofString (tyN t)) = none)
    (ha : OkB C a g) (hs : notStar a = true) : OkE C (.Call (.Name "isinstance" p) [a, .Name (Str.ofString (tyN t)) p2] [] pos) (isiK t g) :=
  PE_imp (pe_callB call_isi hg hm PyProof.Rows.boot_isinstance (pa_cons ha (pa_cons (pe_bltn hg2 hm2 (boot_ty t) (show RelV (.ty (tyN t)) _ from rfl) (by cases t <;> decide) (by cases t <;> decide)) pa_nil rfl) (notStar_ok hs _ _)) (by decide) (by decide) (notStar_ok hs _ _) rfl)
    fun σ H Q ⟨s, ρ, own, μ, e1, p, q⟩ => ⟨s, ρ, own, μ, e1, p, q.bind.mono fun x μ1 h1 vx s1 p1 => by
      obtain ⟨g, h1⟩ := ResG.guard h1
      exact ⟨vx, .ty (tyN t), .type (tyD x), .type (tyN t), isTy x t, rfl, .ty _, p1.rep.ty g, kit_ty (kit_all x g t), h1.ret (.bl (isTy x t)) s1 [] (Post.scal p1.ev p1.wd ⟨rfl, rfl⟩)⟩⟩
/-! ### constants of the module -/
theorem ok_glob {x : Str} {v : V} {u : Value} {d : D} (hg : Gl C.X x) (hm : C.X.mg x = some u) (r : RelV v u) (hd : (x == ("__debug__" : Str)) = false) (hr : ∀ s, Rep C.K C.w s d v []) (hl : C.Φ.gl x = some d) : OkE C (.Name x pos) (fun _ => ofO (C.Φ.gl x)) := by
  rw [hl]
  exact ok_const (pe_glob hg hm r hd) hr
end
/-! ### calls -/
/-- what a function answers -/
def ResF (K : PySem.W.Frag) (w : World) (mg : Str → Option Value) (cls : Str → Option (List Str)) (s : Sx) (Q : VK) (E : XK) : R D → Prop
  | .ok d μ' => ∀ v s' o, Post K w s s' μ' d v o → Q v s'.H
  | .exc c fs μ' => ∀ s' Cl dd, Ev s s' → Wd K w s' μ' → XRep K w mg cls s' c fs Cl dd → E Cl dd s'.H
  | .bad => False
def SpF (K : PySem.W.Frag) (w : World) (mg : Str → Option Value) (cls : Str → Option (List Str)) (n : Nat) (F : List D → M D) : Sp := fun vs H Q E =>
  vs.length = n ∧ ∃ s ds μ, s.H = H ∧ Wd K w s μ ∧ RepL K w s ds vs [] ∧ ResF K w mg cls s Q E (F ds μ)
section
variable {C : Ctx} {e : Expr} {es : List Expr} {ga : Env → M (List D)} {pos p : Pos} {k np : Nat} {x : Str} {fa : Addr} {fd : FuncData} {ps : List Str}
theorem ok_call (F : FnOk C.X.prog C.X.w C.X.K C.X.mg C.X.base (L2.CX C.X.prog C.X.w) k fa fd ps (SpF C.K C.w C.X.mg C.cls np (C.Φ.fn x))) (hr : Room k C.X.A) (hg : Gl C.X x) (hm : C.X.mg x = some (.ref fa)) (hk : PySem.W.keepIn C.X.K (.ref fa) = true)
    (hb : Binds C.X.K fd ps []) (tk : Takes C.X C.W) (ha : OkA C (e :: es) ga) (hn : np = (e :: es).length) (hl : ∀ ρ μ ds μ', ga ρ μ = .ok ds μ' → ds.length = (e :: es).length) (hdb : (x == ("__debug__" : Str)) = false) (hs : (e :: es).all notStar = true) :
    OkE C (.Call (.Name x p) (e :: es) [] pos) (fun ρ => M.bind (ga ρ) fun ds => C.Φ.fn x (D.fzL ds)) := by
  rw [List.all_cons, Bool.and_eq_true] at hs
  refine PE_imp (pe_callS F hr hg hm hk hb (passAt tk) ha hdb (notStar_ok hs.1 _ _) (noStars hs.2 _ _)) fun σ H Q ⟨s, ρ, own, μ, e1, p, q⟩ => ⟨s, ρ, own, μ, e1, p, q.bindE.mono fun ds μ1 ⟨he, h1⟩ vs s1 o ev wd r nd ow => ?_⟩
  have ev2 : Ev s (s1.less o) := ev.less fun a ha => (ow a ha).2.1
  refine ⟨by rw [← r.len, hl _ _ _ _ he, hn], s1.less o, D.fzL ds, μ1, rfl, wd.less fun a ha => (ow a ha).2.2, RepL.fz ds vs o r fun a ha => ha, ?_⟩
  have h1 : ResG C σ (C.Φ.fn x (D.fzL ds) μ1) _ := h1
  cases hc : C.Φ.fn x (D.fzL ds) μ1 with
  | ok d μ' =>
    rw [hc] at h1
    exact fun v s' o' po => h1 v s' o' (po.tr ev2)
  | exc c fs μ' =>
    rw [hc] at h1
    exact fun s' Cl dd e' W' X' => h1 s' Cl dd ((p.ev.trans ev2).trans e') W' X'
  | bad =>
    rw [hc] at h1
    exact h1
/-! arguments that stay one's own -/
def Sx.bare (s : Sx) : Sx := ⟨s.H, fun _ => False, []⟩
mutual
theorem Rep.bare {K : PySem.W.Frag} {w : World} {s : Sx} : ∀ (d : D) (v : V) (o : List Addr), Rep K w s d v o → d.nr = true → Rep K w s.bare d.fz v []
  | .non, _, _, h, _ => ⟨h.1, rfl⟩
  | .bl _, _, _, h, _ => ⟨h.1, rfl⟩
  | .int _, _, _, h, _ => ⟨h.1, rfl⟩
  | .str _, _, _, h, _ => ⟨h.1, rfl⟩
  | .tup ds, v, o, h, n => by
    obtain ⟨a, vs, e, q, r⟩ := h
    exact ⟨a, vs, e, q, RepL.bare ds vs o r n⟩
  | .lst true ds, v, o, h, n => by
    obtain ⟨a, vs, o', e, q, eo, r⟩ := h
    exact ⟨a, vs, e, .inl ⟨.inl q, fun z => z⟩, rfl, RepL.bare ds vs o' r n⟩
  | .lst false ds, v, o, h, n => by
    obtain ⟨a, vs, e, q, eo, r⟩ := h
    exact ⟨a, vs, e, q.imp (fun q => ⟨q.1, fun z => z⟩) id, rfl, RepL.bare ds vs [] r n⟩
  | .dct true ks ds, v, o, h, n => by
    obtain ⟨a, vs, e, q, eo, l, r⟩ := h
    exact ⟨a, vs, e, .inl ⟨.inl q, fun z => z⟩, rfl, by rw [fzL_len]; exact l, RepL.bare ds vs [] r n⟩
  | .dct false ks ds, v, o, h, n => by
    obtain ⟨a, vs, e, q, eo, l, r⟩ := h
    exact ⟨a, vs, e, q.imp (fun z => ⟨z.1, fun z => z⟩) id, rfl, by rw [fzL_len]; exact l, RepL.bare ds vs [] r n⟩
  | .ref _, _, _, _, n => by simp [D.nr] at n
  | .exn _ _, _, _, h, _ => h.elim
theorem RepL.bare {K : PySem.W.Frag} {w : World} {s : Sx} : ∀ (ds : List D) (vs : List V) (o : List Addr), RepL K w s ds vs o → D.nrL ds = true → RepL K w s.bare (D.fzL ds) vs []
  | [], _, _, h, _ => ⟨h.1, rfl⟩
  | d :: ds, vs, o, h, n => by
    obtain ⟨v, vs', o1, o2, e, eo, r1, r2⟩ := h
    have n' : (d.nr && D.nrL ds) = true := n
    obtain ⟨n1, n2⟩ := Bool.and_eq_true_iff.mp n'
    exact ⟨v, vs', [], [], e, rfl, Rep.bare d v o1 r1 n1, RepL.bare ds vs' o2 r2 n2⟩
end
/-- names as arguments, as they are -/
def tNms (is : List Nat) : TA := fun σ H Q => ∃ vs : List V, is.map (fun i => σ[i]?) = vs.map (fun v => some (some v)) ∧ Q vs H
def nmE (x : Str) : Expr → Bool
  | .Name y _ => y == x
  | _ => false
theorem pa_nms {X : Cx} : ∀ {es : List Expr} {is : List Nat}, (∀ j : Nat, ∀ e i, es[j]? = some e → is[j]? = some i → ∃ x p, e = .Name x p ∧ X.N[i]? = some x ∧ Vis X.env.scope x ∧ (x == ("__debug__" : Str)) = false ∧ (x == ("__classdict__" : Str)) = false) → es.length = is.length → PA X es (tNms is)
  | [], [], _, _ => PA_imp pa_nil fun σ H Q ⟨vs, e, q⟩ => by
    cases vs with
    | nil => exact q
    | cons _ _ => simp at e
  | [], _ :: _, _, l => by simp at l
  | _ :: _, [], _, l => by simp at l
  | e :: es, i :: is, h, l => by
    obtain ⟨x, p, rfl, hN, hv, h1, h2⟩ := h 0 e i rfl rfl
    refine PA_imp (pa_cons (pe_var hN hv h1 h2) (pa_nms (fun j e i a b => h (j + 1) e i (by simpa using a) (by simpa using b)) (by simpa using l)) rfl) fun σ H Q ⟨vs, e, q⟩ => ?_
    cases vs with
    | nil => simp at e
    | cons v vs =>
      rw [List.map_cons, List.map_cons, List.cons.injEq] at e
      exact ⟨v, e.1, vs, e.2, q⟩
def brwsK : List Nat → Env → M (List D)
  | [], _ => M.ret []
  | i :: is, ρ => M.bind (match ρ[i]? with
    | some (some d) => M.ret d
    | _ => M.bad) fun d => M.bind (brwsK is ρ) fun ds => M.ret (d :: ds)
theorem brws_ok {σ : L2.St} {s : Sx} {ρ : Env} {own : Nat → List Addr} {μ : Sto} (p : Pre C s ρ σ own μ) : ∀ {is : List Nat} {F : List D → Sto → Prop}, ResG C σ (brwsK is ρ μ) F → ∃ ds vs o, F ds μ ∧ is.map (fun i => σ[i]?) = vs.map (fun v => some (some v)) ∧ (D.nrL ds = true → RepL C.K C.w s ds vs o)
  | [], F, h => ⟨[], [], [], h.ret, rfl, fun _ => ⟨rfl, rfl⟩⟩
  | i :: is, F, h => by
    have h := (show ResG C σ (M.bind (match ρ[i]? with
    | some (some d) => M.ret d
    | _ => M.bad) (fun d => M.bind (brwsK is ρ) fun ds => M.ret (d :: ds)) μ) F from h).bind
    cases e : ρ[i]? with
    | none => simp only [e] at h; exact h.elim
    | some od =>
      cases od with
      | none => simp only [e] at h; exact h.elim
      | some d =>
        simp only [e] at h
        obtain ⟨ds, vs, o, h2, h3, h4⟩ := brws_ok p (h.ret : ResG C σ (M.bind (brwsK is ρ) (fun ds => M.ret (d :: ds)) μ) F).bind
        obtain ⟨v, hv, r⟩ := p.r.at_ i d e
        exact ⟨d :: ds, v :: vs, own i ++ o, h2, by rw [List.map_cons, List.map_cons, hv, h3], fun hn => by
          have n' : (d.nr && D.nrL ds) = true := hn
          obtain ⟨n1, n2⟩ := Bool.and_eq_true_iff.mp n'
          exact ⟨v, vs, own i, o, rfl, rfl, r.rep (fun c fs e => by rw [e] at n1; cases n1), h4 n2⟩⟩
theorem brws_len {ρ : Env} : ∀ {is : List Nat} {μ : Sto} {ds : List D} {μ' : Sto}, brwsK is ρ μ = .ok ds μ' → ds.length = is.length
  | [], _, _, _, h => by cases h; rfl
  | i :: is, μ, ds, μ', h => by
    obtain ⟨d, μ1, _, h⟩ := bind_ok h
    obtain ⟨es, μ2, h1, h⟩ := bind_ok h
    cases h
    rw [List.length_cons, List.length_cons, brws_len h1]
theorem ok_callB {is : List Nat} (F : FnOk C.X.prog C.X.w C.X.K C.X.mg C.X.base (L2.CX C.X.prog C.X.w) k fa fd ps (SpF C.K C.w C.X.mg C.cls np (C.Φ.fn x))) (hr : Room k C.X.A) (hg : Gl C.X x) (hm : C.X.mg x = some (.ref fa)) (hk : PySem.W.keepIn C.X.K (.ref fa) = true)
    (hb : Binds C.X.K fd ps []) (tk : Takes C.X C.W) (hnm : ∀ j : Nat, ∀ e' i, (e :: es)[j]? = some e' → is[j]? = some i → ∃ x p, e' = .Name x p ∧ C.X.N[i]? = some x ∧ Vis C.X.env.scope x ∧ (x == ("__debug__" : Str)) = false ∧ (x == ("__classdict__" : Str)) = false)
    (hli : (e :: es).length = is.length) (hn : np = is.length) (hdb : (x == ("__debug__" : Str)) = false) (hs : (e :: es).all notStar = true) :
    OkE C (.Call (.Name x p) (e :: es) [] pos) (fun ρ => M.bind (brwsK is ρ) fun ds μ => match C.Φ.fn x (D.fzL ds) [] with
      | .ok d _ => if d.flat && D.nrL ds then .ok d μ else .bad
      | _ => .bad) := by
  rw [List.all_cons, Bool.and_eq_true] at hs
  refine PE_imp (pe_callS F hr hg hm hk hb (passAt tk) (pa_nms hnm hli) hdb (notStar_ok hs.1 _ _) (noStars hs.2 _ _)) fun σ H Q ⟨s, ρ, own, μ, e1, p, q⟩ => ?_
  obtain ⟨ds, vs, o, ⟨hE, h1⟩, h2, r⟩ := brws_ok p q.bindE
  refine ⟨vs, h2, ?_⟩
  have h1 : ResG C σ (match C.Φ.fn x (D.fzL ds) [] with
      | .ok d _ => if d.flat && D.nrL ds then .ok d μ else .bad
      | _ => .bad) fun d μ' => ∀ v s' o, Post C.K C.w s s' μ' d v o → Q v s'.H := h1
  cases hc : C.Φ.fn x (D.fzL ds) [] with
  | ok d μ' =>
    rw [hc] at h1
    have h1 : ResG C σ (if (d.flat && D.nrL ds) = true then .ok d μ else .bad) fun d μ' => ∀ v s' o, Post C.K C.w s s' μ' d v o → Q v s'.H := h1
    by_cases g : (d.flat && D.nrL ds) = true
    · rw [if_pos g] at h1
      rw [Bool.and_eq_true] at g
      have r := r g.2
      refine ⟨by rw [← r.len, brws_len hE, hn], s.bare, D.fzL ds, [], e1, ⟨fun _ z => z.elim, (fun _ z => nomatch z), List.nodup_nil, rfl, fun n a ds h => by simp [Sx.bare] at h⟩, RepL.bare ds vs o r g.2, ?_⟩
      rw [hc]
      intro v s' o' po
      have et : Ev s ⟨s'.H, s.O, s.ι⟩ := ⟨(fun a u h n => po.ev.ext a u h (fun z => nomatch z)), ⟨[], by simp, (fun _ z => nomatch z)⟩, fun _ h => h, fun _ h => .inl h, po.ev.live⟩
      refine h1 v ⟨s'.H, s.O, s.ι⟩ [] (Post.scal et ⟨fun a h => ?_, p.wd.sub, p.wd.nd, p.wd.len, fun n a ds h1 h2 => ?_⟩ ?_)
      · have m := p.wd.mt a h
        cases z : s.H a with
        | none => rw [z] at m; exact m.elim
        | some u =>
          show Mut (s'.H a)
          rw [po.ev.ext a u z (fun z => nomatch z)]
          rw [z] at m; exact m
      · obtain ⟨us, h3, h4⟩ := p.wd.at_ n a ds h1 h2
        exact ⟨us, po.ev.ext a _ h3 (fun z => nomatch z), et.repL p.wd h4⟩
      · obtain ⟨e2, _⟩ := po.rep.flat g.1
        rw [e2]
        cases d with
        | non => exact ⟨rfl, rfl⟩
        | bl _ => exact ⟨rfl, rfl⟩
        | int _ => exact ⟨rfl, rfl⟩
        | str _ => exact ⟨rfl, rfl⟩
        | _ => simp [D.flat] at g
    · rw [if_neg g] at h1
      exact h1.elim
  | exc c fs μ' => rw [hc] at h1; exact h1.elim
  | bad => rw [hc] at h1; exact h1.elim
end
end Vf

/-! V8 -/
set_option autoImplicit false
set_option linter.all false
set_option Elab.async false
set_option maxHeartbeats 1000000
/-! V8: targets, iterators. -/
namespace Vf
open PySem PySem.Spec PyProof.Rows L2

/-- from one statement to the next: what is frozen stays -/
structure Go (s s' : Sx) : Prop where
  kp : Kp s s'
  live : ∀ a, s'.H a = none → s.H a = none
section
variable {K : PySem.W.Frag} {w : World} {s s1 s' : Sx} {μ : Sto}
theorem Ev.go (e : Ev s s') (W : Wd K w s μ) : Go s s' := ⟨e.kp W, e.live⟩
theorem Go.refl (W : Wd K w s μ) : Go s s := (Ev.refl s).go W
theorem Go.trans (a : Go s s1) (b : Go s1 s') : Go s s' := by
  refine ⟨⟨a.kp.mt, fun x u h n => b.kp.ext x u (a.kp.ext x u h n) (a.kp.live h n), fun x h => ?_, ?_⟩, fun x h => a.live x (b.live x h)⟩
  · rcases b.kp.dn x h with q | q
    · exact a.kp.dn x q
    · exact .inr (a.live x q)
  · obtain ⟨t, e, f⟩ := a.kp.pre
    obtain ⟨t', e', f'⟩ := b.kp.pre
    exact ⟨t ++ t', by rw [e', e, List.append_assoc], fun x hx => (List.mem_append.mp hx).elim (f x) fun q => a.live x (f' x q)⟩
theorem Go.rep0 (g : Go s s') {d : D} {v : V} (h : Rep K w s d v []) : Rep K w s' d v [] := Rep.keep g.kp d v [] h fun _ z => nomatch z
theorem Go.repL (g : Go s s') {ds : List D} {vs : List V} (h : RepL K w s ds vs []) : RepL K w s' ds vs [] := RepL.keep g.kp ds vs [] h fun _ z => nomatch z
theorem Go.put {p : Addr} {u : HO} (W : Wd K w s μ) (hp : s.O p) : Go s (s.put p u) := ⟨Kp.put W hp, fun a h => by
  have h : upd s.H p u a = none := h
  by_cases e : a = p
  · rw [e, upd_same] at h; cases h
  · rw [upd_ne e] at h; exact h⟩
theorem Go.less {o : List Addr} (W : Wd K w s μ) : Go s (s.less o) := ⟨⟨W.mt, fun _ _ h _ => h, fun a h => .inl h.1, ⟨[], by simp [Sx.less], fun _ z => nomatch z⟩⟩, fun _ h => h⟩
end

/-! ### slots -/
theorem set_get {α : Type} {ρ : List (Option α)} {i j : Nat} {x y : α} (h : (ρ.set i (some x))[j]? = some (some y)) : (j = i ∧ y = x ∧ i < ρ.length) ∨ (j ≠ i ∧ ρ[j]? = some (some y)) := by
  by_cases e : j = i
  · subst e
    by_cases hl : j < ρ.length
    · rw [List.getElem?_set_self hl] at h
      exact .inl ⟨rfl, (Option.some.inj (Option.some.inj h)).symm, hl⟩
    · rw [List.getElem?_eq_none (by rw [List.length_set]; omega)] at h
      cases h
  · rw [List.getElem?_set_ne (Ne.symm e)] at h
    exact .inr ⟨e, h⟩
/-- owned things that no slot owns -/
structure Frs (C : Ctx) (s : Sx) (own : Nat → List Addr) (o : List Addr) : Prop where
  nd : o.Nodup
  ow : ∀ a ∈ o, s.O a ∧ a ∉ s.ι ∧ ¬ C.s0.O a
  ap : ∀ (i : Nat) (a : Addr), a ∈ own i → a ∉ o
section
variable {C : Ctx} {s s' : Sx} {ρ : Env} {σ : L2.St} {own : Nat → List Addr} {μ μ' : Sto} {d : D} {v : V} {o : List Addr}
theorem Frs.nil : Frs C s own [] := ⟨List.nodup_nil, (fun _ z => nomatch z), fun _ _ _ z => nomatch z⟩
theorem Post.frs (p : Pre C s ρ σ own μ) (po : Post C.K C.w s s' μ' d v o) : Frs C s' own o :=
  ⟨po.nd, fun a h => ⟨(po.ow a h).1, (po.ow a h).2.2, fun z => (po.ow a h).2.1 (p.ev.up a z)⟩, fun i a h z => (po.ow a z).2.1 (p.r.ow i a h).1⟩
theorem Pre.set (p : Pre C s ρ σ own μ) {i : Nat} (hi : i < ρ.length) (r : Rep C.K C.w s d v o) (f : Frs C s own o) : Pre C s (ρ.set i (some d)) (σ.set i (some v)) (fun j => if j = i then o else own j) μ := by
  refine ⟨⟨fun j e h => ?_, fun j a h => ?_, fun j => ?_, fun j k a hjk h h' => ?_, by rw [List.length_set, List.length_set]; exact p.r.len⟩, p.wd, p.ev, fun j a h => ?_⟩
  · rcases set_get h with ⟨rfl, rfl, hl⟩ | ⟨hn, h⟩
    · refine ⟨v, List.getElem?_set_self (by rw [← p.r.len]; exact hl), ?_⟩
      simp only [if_true]; exact RepX.of r
    · obtain ⟨u, h1, h2⟩ := p.r.at_ j e h
      refine ⟨u, by rw [List.getElem?_set_ne (Ne.symm hn)]; exact h1, ?_⟩
      simp only [if_neg hn]; exact h2
  · by_cases e : j = i
    · simp only [if_pos e] at h; exact ⟨(f.ow a h).1, (f.ow a h).2.1⟩
    · simp only [if_neg e] at h; exact p.r.ow j a h
  · by_cases e : j = i
    · simp only [if_pos e]; exact f.nd
    · simp only [if_neg e]; exact p.r.nd j
  · by_cases e : j = i
    · have e' : k ≠ i := fun z => hjk (e.trans z.symm)
      simp only [if_pos e] at h
      simp only [if_neg e'] at h'
      exact f.ap k a h' h
    · simp only [if_neg e] at h
      by_cases e' : k = i
      · simp only [if_pos e'] at h'; exact f.ap j a h h'
      · simp only [if_neg e'] at h'; exact p.r.ap j k a hjk h h'
  · by_cases e : j = i
    · simp only [if_pos e] at h; exact (f.ow a h).2.2
    · simp only [if_neg e] at h; exact p.fr j a h
theorem wipe_at {α : Type} {ρ : List (Option α)} {j : Nat} {x : α} : ∀ {is : List Nat} {f : List (Option α) → List Nat → List (Option α)}, (∀ ρ, f ρ [] = ρ) → (∀ ρ i is, f ρ (i :: is) = (f ρ is).set i none) → (f ρ is)[j]? = some (some x) → ρ[j]? = some (some x) ∧ j ∉ is
  | [], f, h0, _, h => by rw [h0] at h; exact ⟨h, by simp⟩
  | i :: is, f, h0, h1, h => by
    rw [h1] at h
    by_cases e : i = j
    · subst e
      by_cases hl : i < (f ρ is).length
      · rw [List.getElem?_set_self hl] at h; cases h
      · rw [List.getElem?_eq_none (by rw [List.length_set]; omega)] at h; cases h
    · rw [List.getElem?_set_ne e] at h
      obtain ⟨a, b⟩ := wipe_at h0 h1 h
      exact ⟨a, by simp only [List.mem_cons, not_or]; exact ⟨fun z => e z.symm, b⟩⟩
theorem wipe_len {α : Type} {ρ : List (Option α)} : ∀ {is : List Nat} {f : List (Option α) → List Nat → List (Option α)}, (∀ ρ, f ρ [] = ρ) → (∀ ρ i is, f ρ (i :: is) = (f ρ is).set i none) → (f ρ is).length = ρ.length
  | [], f, h0, _ => by rw [h0]
  | i :: is, f, h0, h1 => by rw [h1, List.length_set, wipe_len h0 h1]
theorem wipeS_out {σ : L2.St} {j : Nat} {x : V} : ∀ {is : List Nat}, j ∉ is → (L2.wipe σ is)[j]? = σ[j]?
  | [], _ => rfl
  | i :: is, h => by
    unfold L2.wipe
    have h := not_or.mp fun z => h (List.mem_cons.mpr z)
    rw [List.getElem?_set_ne (Ne.symm h.1)]
    exact wipeS_out (x := x) h.2
theorem Pre.wipe (p : Pre C s ρ σ own μ) (is : List Nat) : Pre C s (Vf.wipe ρ is) (L2.wipe σ is) own μ := by
  refine ⟨⟨fun j e h => ?_, p.r.ow, p.r.nd, p.r.ap, ?_⟩, p.wd, p.ev, p.fr⟩
  · obtain ⟨h1, h2⟩ := wipe_at (f := Vf.wipe) (fun _ => rfl) (fun _ _ _ => rfl) h
    obtain ⟨u, h3, h4⟩ := p.r.at_ j e h1
    exact ⟨u, by rw [wipeS_out (x := u) h2]; exact h3, h4⟩
  · rw [wipe_len (f := Vf.wipe) (fun _ => rfl) (fun _ _ _ => rfl), wipe_len (f := L2.wipe) (fun _ => rfl) (fun _ _ _ => rfl)]
    exact p.r.len
/-- an own object, that no slot owns, is written -/
theorem Pre.put (p : Pre C s ρ σ own μ) {a : Addr} {u : HO} (ha : s.O a) (hn : a ∉ s.ι) (h0 : C.s0.H a = none) (hd : ∀ j, a ∉ own j) (mu : Mut (some u)) : Pre C (s.put a u) ρ σ own μ := by
  have keep : ∀ b, b ≠ a → (s.put a u).H b = s.H b := fun b e => upd_ne e
  refine ⟨⟨fun j e h => ?_, p.r.ow, p.r.nd, p.r.ap, p.r.len⟩, p.wd.put ha hn mu, ?_, p.fr⟩
  · obtain ⟨v, h1, h2⟩ := p.r.at_ j e h
    exact ⟨v, h1, RepX.keep (Kp.put p.wd ha) h2 fun b hb => keep b fun e => hd j (by rw [← e]; exact hb)⟩
  · exact ⟨fun b x h n => (keep b fun e => by rw [e, h0] at h; cases h).trans (p.ev.ext b x h n), p.ev.pre, p.ev.up, p.ev.dn, fun b h => by
      by_cases e : b = a
      · rw [e]; exact h0
      · rw [keep b e] at h; exact p.ev.live b h⟩
theorem Frs.put (f : Frs C s own o) {a : Addr} {u : HO} : Frs C (s.put a u) own o := ⟨f.nd, f.ow, f.ap⟩
theorem Frs.step (f : Frs C s own o) (e : Ev s s') (W : Wd C.K C.w s μ) : Frs C s' own o := ⟨f.nd, fun a h => by
  have := e.ownS W (o := o) (fun a h => ⟨(f.ow a h).1, (f.ow a h).2.1⟩) a h
  exact ⟨this.1, this.2, (f.ow a h).2.2⟩, f.ap⟩
end
/-! ### targets -/
/-- the slots outside are as they were -/
def SameOut (is : List Nat) (σ σ' : L2.St) : Prop := σ'.length = σ.length ∧ ∀ j, j ∉ is → σ'[j]? = σ[j]?
theorem SameOut.refl {is : List Nat} {σ : L2.St} : SameOut is σ σ := ⟨rfl, fun _ _ => rfl⟩
theorem SameOut.trans {is js : List Nat} {σ σ1 σ2 : L2.St} (a : SameOut is σ σ1) (b : SameOut js σ1 σ2) : SameOut (is ++ js) σ σ2 :=
  ⟨b.1.trans a.1, fun j h => by
    have h := not_or.mp fun z => h (List.mem_append.mpr z)
    rw [b.2 j h.2, a.2 j h.1]⟩
theorem SameOut.set {i : Nat} {σ : L2.St} {x : Option V} : SameOut [i] σ (σ.set i x) := ⟨List.length_set .., fun j h => List.getElem?_set_ne (by simpa using fun e : i = j => h (by simp [e]))⟩
theorem wipe_in {σ : L2.St} {j : Nat} : ∀ {is : List Nat}, j ∈ is → j < σ.length → (L2.wipe σ is)[j]? = some none
  | [], h, _ => nomatch h
  | i :: is, h, hl => by
    unfold L2.wipe
    by_cases e : i = j
    · subst e
      exact List.getElem?_set_self (by rw [L2.wipe_length]; exact hl)
    · rw [List.getElem?_set_ne e]
      exact wipe_in ((List.mem_cons.mp h).resolve_left fun z => e z.symm) hl
theorem SameOut.wipe {is vs : List Nat} {σ σ' : L2.St} (h : SameOut is σ σ') (hs : ∀ i ∈ is, i ∈ vs) : L2.wipe σ' vs = L2.wipe σ vs := by
  apply List.ext_getElem?
  intro j
  by_cases hj : j ∈ vs
  · by_cases hl : j < σ.length
    · rw [wipe_in hj hl, wipe_in hj (by rw [h.1]; exact hl)]
    · rw [List.getElem?_eq_none (by rw [L2.wipe_length, h.1]; omega), List.getElem?_eq_none (by rw [L2.wipe_length]; omega)]
  · rw [wipeS_out (x := .non) hj, wipeS_out (x := .non) hj]
    exact h.2 j fun z => hj (hs j z)
theorem wipe_wipe {σ : L2.St} {vs : List Nat} : L2.wipe (L2.wipe σ vs) vs = L2.wipe σ vs := by
  apply List.ext_getElem?
  intro j
  by_cases hj : j ∈ vs
  · by_cases hl : j < σ.length
    · rw [wipe_in hj (by rw [L2.wipe_length]; exact hl), wipe_in hj hl]
    · rw [List.getElem?_eq_none (by rw [L2.wipe_length, L2.wipe_length]; omega), List.getElem?_eq_none (by rw [L2.wipe_length]; omega)]
  · rw [wipeS_out (x := .non) hj]
def OwnIn (own own' : Nat → List Addr) (o : List Addr) : Prop := ∀ j a, a ∈ own' j → (∃ k, a ∈ own k) ∨ a ∈ o
theorem OwnIn.refl {own : Nat → List Addr} {o : List Addr} : OwnIn own own o := fun j a h => .inl ⟨j, h⟩
theorem OwnIn.trans {a b c : Nat → List Addr} (h1 : OwnIn a b []) (h2 : OwnIn b c []) : OwnIn a c [] := fun j x h => by
  rcases h2 j x h with ⟨k, h⟩ | h
  · exact h1 k x h
  · cases h
def tG (C : Ctx) (t : T) : TG := fun v σ H Q => ∃ s ρ own μ d o ρ', s.H = H ∧ Pre C s ρ σ own μ ∧ Rep C.K C.w s d v o ∧ Frs C s own o ∧ asg t d ρ = some ρ' ∧
  ∀ σ' own', Pre C s ρ' σ' own' μ → OwnIn own own' o → SameOut t.ix σ σ' → Q σ' s.H
def tGs (C : Ctx) (ts : List T) : TGs := fun vs σ H Q => ∃ s ρ own μ ds ρ', s.H = H ∧ Pre C s ρ σ own μ ∧ RepL C.K C.w s ds vs [] ∧ asgL ts ds ρ = some ρ' ∧
  ∀ σ' own', Pre C s ρ' σ' own' μ → OwnIn own own' [] → SameOut (T.ixL ts) σ σ' → Q σ' s.H
abbrev OkG (C : Ctx) (e : Expr) (t : T) : Prop := PG C.X e (tG C t)
abbrev OkGs (C : Ctx) (e : List Expr) (t : List T) : Prop := PGs C.X e (tGs C t)
theorem PG_imp {X : Cx} {e : Expr} {t t' : TG} (h : PG X e t) (i : ∀ v σ H Q, t' v σ H Q → t v σ H Q) : PG X e t' := ⟨fun pins s σ H v u Q I r q => h.run pins s σ H v u Q I r (i v σ H Q q)⟩
theorem PGs_imp {X : Cx} {e : List Expr} {t t' : TGs} (h : PGs X e t) (i : ∀ v σ H Q, t' v σ H Q → t v σ H Q) : PGs X e t' := ⟨fun pins s σ H v u Q I r q => h.run pins s σ H v u Q I r (i v σ H Q q)⟩
theorem asgEach_ok {e : Expr} (h : notStar e = true) (es : List Expr) (env : PySem.Env) : assignEach (e :: es) env = (false, assign e env) :: assignEach es env := by
  cases e <;> first | rfl | cases h
section
variable {C : Ctx} {e : Expr} {es : List Expr} {t : T} {ts : List T} {pos : Pos}
theorem ok_gname {i : Nat} {x : Str} (hN : C.X.N.Nodup) (hi : C.X.N[i]? = some x) (hx : Loc C.X.env.scope x) (hf : C.X.fn x = true ∨ C.X.env.scope.names.lookup x = some .local) : OkG C (.Name x pos) (.nm i) :=
  PG_imp (pg_name hN hi hx hf) fun v σ H Q ⟨s, ρ, own, μ, d, o, ρ', e1, p, r, f, ea, k⟩ => by
    have ea : (if i < ρ.length then some (ρ.set i (some d)) else none) = some ρ' := ea
    by_cases hl : i < ρ.length
    · rw [if_pos hl] at ea
      cases ea
      show Q (σ.set i (some v)) H
      rw [← e1]
      exact k _ _ (p.set hl r f) (fun j a h => by
        by_cases e : j = i
        · simp only [if_pos e] at h; exact .inr h
        · simp only [if_neg e] at h; exact .inl ⟨j, h⟩) SameOut.set
    · rw [if_neg hl] at ea; cases ea
theorem ok_gnil : OkGs C [] [] := PGs_imp pgs_nil fun vs σ H Q ⟨s, ρ, own, μ, ds, ρ', e1, p, r, ea, k⟩ => by
  cases ds with
  | nil =>
    cases ea
    exact ⟨r.1, by rw [← e1]; exact k σ own p OwnIn.refl SameOut.refl⟩
  | cons _ _ => cases ea
theorem ok_gcons (h1 : OkG C e t) (h2 : OkGs C es ts) (hs : notStar e = true) : OkGs C (e :: es) (t :: ts) :=
  PGs_imp (pgs_cons h1 h2 (by rw [asgEach_ok hs]; rfl)) fun vs σ H Q ⟨s, ρ, own, μ, ds, ρ', e1, p, r, ea, k⟩ => by
    cases ds with
    | nil => cases ea
    | cons d ds =>
      obtain ⟨v, vs', ev, r1, r2⟩ := r.cons_of
      subst ev
      unfold asgL at ea
      cases e2 : asg t d ρ with
      | none => rw [e2] at ea; cases ea
      | some ρ1 =>
        rw [e2] at ea
        exact ⟨v, vs', rfl, s, ρ, own, μ, d, [], ρ1, e1, p, r1, Frs.nil, e2, fun σ1 own1 p1 oi so => ⟨s, ρ1, own1, μ, ds, ρ', rfl, p1, r2, ea, fun σ2 own2 p2 oi2 so2 => by rw [e1] at *; exact k σ2 own2 p2 (oi.trans oi2) (so.trans so2)⟩⟩
theorem asgL_len : ∀ {ts : List T} {ds : List D} {ρ ρ' : Env}, asgL ts ds ρ = some ρ' → ds.length = ts.length
  | [], [], _, _, _ => rfl
  | [], _ :: _, _, _, h => by cases h
  | _ :: _, [], _, _, h => by cases h
  | t :: ts, d :: ds, ρ, ρ', h => by
    unfold asgL at h
    cases e : asg t d ρ with
    | none => rw [e] at h; cases h
    | some ρ1 => rw [e] at h; rw [List.length_cons, List.length_cons, asgL_len h]
theorem eachLen : ∀ {es : List Expr} {env : PySem.Env}, es.all notStar = true → (assignEach es env).length = es.length ∧ (assignEach es env).findIdx? (·.1) = none
  | [], _, _ => ⟨rfl, rfl⟩
  | e :: es, env, h => by
    rw [List.all_cons, Bool.and_eq_true] at h
    obtain ⟨a, b⟩ := eachLen (env := env) h.2
    rw [asgEach_ok h.1]
    refine ⟨by rw [List.length_cons, a, List.length_cons], ?_⟩
    rw [List.findIdx?_cons]
    simp [b]
theorem ok_gtup {k : Nat} (hc : C.X.calm = true) (h : OkGs C es ts) (hl : es.length = ts.length) (hs : es.all notStar = true) : OkG C (.Tuple es k pos) (.tup ts) :=
  PG_imp (pg_tup (n := ts.length) hc h ((eachLen hs).1.trans hl) (eachLen hs).2) fun v σ H Q ⟨s, ρ, own, μ, d, o, ρ', e1, p, r, f, ea, q⟩ => by
    cases d with
    | tup ds =>
      have ea : (if D.nbL ds = true then asgL ts ds ρ else none) = some ρ' := ea
      by_cases nb : D.nbL ds = true
      · rw [if_pos nb] at ea
        obtain ⟨a, vs, ev, hq, rr⟩ := r
        have eo := RepL.nb _ _ _ rr nb
        subst eo
        exact ⟨a, vs, ev, by rw [← e1]; exact hq, by rw [← rr.len, asgL_len ea], s, ρ, own, μ, ds, ρ', e1, p, rr, ea, q⟩
      · rw [if_neg nb] at ea; cases ea
    | _ => cases ea
end
/-! ### iterators -/
/-- it gives these, one by one, whatever comes between -/
def WalkK (K : PySem.W.Frag) (w : World) (s : Sx) (xs : List D) (J : It) : Prop := ∃ G Y, Walk J xs.length G Y ∧ (∀ s', Go s s' → G s'.H) ∧
  ∀ (i : Nat) (s' : Sx) (μ : Sto) (x : V) (H' : Hp), i < xs.length → Go s s' → Wd K w s' μ → Y i s'.H x H' → ∃ s3 d, s3.H = H' ∧ Ev s' s3 ∧ Wd K w s3 μ ∧ xs[i]? = some d ∧ Rep K w s3 d x []
def tI (C : Ctx) (f : Env → M (List D)) : TI := fun σ H R => ∃ s ρ own μ, s.H = H ∧ Pre C s ρ σ own μ ∧ ResG C σ (f ρ μ) fun xs μ' => ∀ J s', Ev s s' → Wd C.K C.w s' μ' → WalkK C.K C.w s' xs J → R J s'.H
abbrev OkI (C : Ctx) (tg e : Expr) (f : Env → M (List D)) : Prop := PI C.X tg e (tI C f)
theorem PI_imp {X : Cx} {tg e : Expr} {t t' : TI} (h : PI X tg e t) (i : ∀ σ H Q, t' σ H Q → t σ H Q) : PI X tg e t' := ⟨fun pins s σ H Q I q => h.run pins s σ H Q I (i σ H Q q)⟩
section
variable {K : PySem.W.Frag} {w : World} {s s' : Sx} {a b : Addr} {ds es : List D} {vs us : List V} {μ : Sto}
theorem Go.fzL (g : Go s s') (h : FzL K s a vs) : FzL K s' a vs := g.kp.fzL h
theorem walkK_lst (h : FzL K s a vs) (r : RepL K w s ds vs []) : WalkK K w s ds (Itl K a) := by
  refine ⟨_, _, by rw [r.len]; exact walk_list (xs := vs), fun s' g => (g.fzL h).sq, fun i s' μ x H' hi g W y => ?_⟩
  obtain ⟨e, hx⟩ := y
  obtain ⟨v, h1, h2⟩ := r.at_ (List.getElem?_eq_getElem hi)
  rw [hx] at h1; cases h1
  exact ⟨s', ds[i], e.symm, Ev.refl s', W, List.getElem?_eq_getElem hi, g.rep0 h2⟩
theorem walkK_tup (h : SqT K s.H a vs) (r : RepL K w s ds vs []) : WalkK K w s ds (Itt K a) := by
  refine ⟨_, _, by rw [r.len]; exact walk_tup (xs := vs), fun s' g => g.kp.sqT h, fun i s' μ x H' hi g W y => ?_⟩
  obtain ⟨e, hx⟩ := y
  obtain ⟨v, h1, h2⟩ := r.at_ (List.getElem?_eq_getElem hi)
  rw [hx] at h1; cases h1
  exact ⟨s', ds[i], e.symm, Ev.refl s', W, List.getElem?_eq_getElem hi, g.rep0 h2⟩
theorem walkK_rng {i j : Int} : WalkK K w s ((List.range (j - i).toNat).map fun k => .int (i + (k : Nat))) (Itr i (j - i).toNat) := by
  refine ⟨_, _, by rw [List.length_map, List.length_range]; exact walk_range, fun s' g => trivial, fun k s' μ x H' hk g W y => ?_⟩
  obtain ⟨e, hx⟩ := y
  rw [List.length_map, List.length_range] at hk
  exact ⟨s', .int (i + (k : Nat)), e.symm, Ev.refl s', W, by simp [hk], hx, rfl⟩
theorem pair_ok {d1 d2 : D} {x : V} {H' : Hp} {x1 x2 : V} {T : Addr} (W : Wd K w s μ) (hx : x = .ref T) (hT : s.H T = none) (hH : H' = upd s.H T (.tup [x1, x2])) (r1 : Rep K w s d1 x1 []) (r2 : Rep K w s d2 x2 []) :
    ∃ s3, s3.H = H' ∧ Ev s s3 ∧ Wd K w s3 μ ∧ Rep K w s3 (.tup [d1, d2]) x [] := by
  have e := Ev.tup (s := s) (p := T) hT (u := .tup [x1, x2])
  exact ⟨s.tup T (.tup [x1, x2]), hH.symm, e, W.tup hT, T, [x1, x2], hx, .of upd_same, RepL.cons (e.rep0 W r1) (RepL.cons (e.rep0 W r2) ⟨rfl, rfl⟩)⟩
theorem num_len : ∀ (n : Nat) (ds : List D), (num n ds).length = ds.length
  | _, [] => rfl
  | n, d :: ds => by show (num (n + 1) ds).length + 1 = ds.length + 1; rw [num_len]
theorem num_at : ∀ {n : Nat} {ds : List D} {i : Nat} {d : D}, ds[i]? = some d → (num n ds)[i]? = some (.tup [.int ((n + i : Nat) : Int), d])
  | _, [], _, _, h => by simp at h
  | n, x :: ds, 0, d, h => by
    simp at h; subst h; rfl
  | n, x :: ds, i + 1, d, h => by
    show (num (n + 1) ds)[i]? = _
    rw [num_at (n := n + 1) (d := d) (by simpa using h)]
    congr 5
    omega
theorem walkK_enum (h : FzL K s a vs) (r : RepL K w s ds vs []) : WalkK K w s (num 0 ds) (Ite K a) := by
  refine ⟨_, _, by rw [num_len, r.len]; exact walk_enum (xs := vs), fun s' g => (g.fzL h).sq, fun i s' μ x H' hi g W y => ?_⟩
  rw [num_len] at hi
  obtain ⟨T, x1, x2, hx, hT, hH, e1, e2⟩ := y
  obtain ⟨v, h1, h2⟩ := r.at_ (List.getElem?_eq_getElem hi)
  have e2 : vs[i]? = some x2 := e2
  rw [e2] at h1; cases h1
  have e1 := Option.some.inj e1
  obtain ⟨s3, a1, a2, a3, a4⟩ := pair_ok (d1 := .int (i : Nat)) W hx hT hH ⟨e1.symm, rfl⟩ (g.rep0 h2)
  exact ⟨s3, _, a1, a2, a3, by rw [num_at (List.getElem?_eq_getElem hi)]; simp, a4⟩
theorem zip_len : ∀ (ds es : List D), (zipD ds es).length = min ds.length es.length
  | [], _ => by simp [zipD]
  | _ :: _, [] => by simp [zipD]
  | d :: ds, e :: es => by show (zipD ds es).length + 1 = min (ds.length + 1) (es.length + 1); rw [zip_len]; omega
theorem zip_at : ∀ {ds es : List D} {i : Nat} {d e : D}, ds[i]? = some d → es[i]? = some e → (zipD ds es)[i]? = some (.tup [d, e])
  | [], _, _, _, _, h, _ => by simp at h
  | _ :: _, [], _, _, _, _, h => by simp at h
  | x :: ds, y :: es, 0, d, e, h1, h2 => by
    simp at h1 h2; subst h1 h2; rfl
  | x :: ds, y :: es, i + 1, d, e, h1, h2 => zip_at (ds := ds) (es := es) (by simpa using h1) (by simpa using h2)
/-- by pairs -/
theorem walkK_pair {J : It} {G : Hp → Prop} (hw : Walk J (min vs.length us.length) G (YPair (fun i => vs[i]?) (fun i => us[i]?))) (hG : ∀ s', Go s s' → G s'.H) (r : RepL K w s ds vs []) (r' : RepL K w s es us []) : WalkK K w s (zipD ds es) J := by
  refine ⟨G, _, by rw [zip_len, r.len, r'.len]; exact hw, hG, fun i s' μ x H' hi g W y => ?_⟩
  rw [zip_len] at hi
  obtain ⟨T, x1, x2, hx, hT, hH, e1, e2⟩ := y
  obtain ⟨v, h1, h2⟩ := r.at_ (List.getElem?_eq_getElem (show i < ds.length by omega))
  obtain ⟨v', h1', h2'⟩ := r'.at_ (List.getElem?_eq_getElem (show i < es.length by omega))
  have e1 : vs[i]? = some x1 := e1
  have e2 : us[i]? = some x2 := e2
  rw [e1] at h1; cases h1
  rw [e2] at h1'; cases h1'
  obtain ⟨s3, a1, a2, a3, a4⟩ := pair_ok W hx hT hH (g.rep0 h2) (g.rep0 h2')
  exact ⟨s3, _, a1, a2, a3, zip_at (List.getElem?_eq_getElem (by omega)) (List.getElem?_eq_getElem (by omega)), a4⟩
theorem walkK_rev (h : FzL K s a vs) (r : RepL K w s ds vs []) : WalkK K w s ds.reverse (Itv K a vs.length) := by
  refine ⟨_, _, by rw [List.length_reverse, r.len]; exact walk_rev (xs := vs), fun s' g => (g.fzL h).sq, fun i s' μ x H' hi g W y => ?_⟩
  obtain ⟨e, hx⟩ := y
  rw [List.length_reverse] at hi
  have hi' : vs.length - 1 - i < ds.length := by rw [← r.len]; omega
  obtain ⟨v, h1, h2⟩ := r.at_ (List.getElem?_eq_getElem hi')
  rw [hx] at h1; cases h1
  refine ⟨s', _, e.symm, Ev.refl s', W, ?_, g.rep0 h2⟩
  rw [List.getElem?_reverse hi]
  have e3 : ds.length - 1 - i = vs.length - 1 - i := by rw [r.len]
  rw [e3, List.getElem?_eq_getElem hi']
end
/-! a value that is frozen ahead of the walk -/
theorem Post.fzn {K : PySem.W.Frag} {w : World} {s s1 : Sx} {μ : Sto} {d : D} {v : V} {o : List Addr} (p : Post K w s s1 μ d v o) : Ev s (s1.less o) ∧ Wd K w (s1.less o) μ ∧ Rep K w (s1.less o) d.fz v [] :=
  ⟨p.ev.less fun a ha => (p.ow a ha).2.1, p.wd.less fun a ha => (p.ow a ha).2.2, Rep.fz d v o p.rep fun a ha => ha⟩
section
variable {C : Ctx} {tg e e2 a b : Expr} {f g : Env → M D} {pos p tpos : Pos}
abbrev fzK (f : Env → M D) : Env → M D := fun ρ => M.bind (f ρ) (opnd false)
/-- a list or a tuple that is walked -/
def iSeq (K : PySem.W.Frag) (te : TE) : TI := fun σ H R => te σ H fun x H1 => ∃ a, x = .ref a ∧ (((∃ xs, SqL K H1 a xs) ∧ R (Itl K a) H1) ∨ ((∃ xs, SqT K H1 a xs) ∧ R (Itt K a) H1))
theorem pi_seq {X : Cx} {l : Expr} {tl : TE} (hl : PE X l tl) : PI X tg l (iSeq X.K tl) := by
  refine ⟨fun pins s σ H R I h => ?_⟩
  refine thn (hl.run pins s σ H _ I h) fun v s1 ⟨x, H1, I1, r1, q1⟩ => ?_
  obtain ⟨a, e, q⟩ := q1
  subst e
  cases r1
  rcases q with ⟨⟨xs, hq⟩, q⟩ | ⟨⟨xs, hq⟩, q⟩
  · obtain ⟨its, rv, p, hz⟩ := I1.list hq
    refine wpAny_pyIter_list p.isList ?_
    refine ⟨s1.heap.objs.size, [s1.heap.objs.size], _, _, H1, rfl, I1.kept (t' := s1.toks) fun b o e => Heap.get?_push_of_some _ e, turn_list a _, ⟨_, Heap.get?_push_size _ rfl, rfl, rfl⟩, fun b hb => ?_, q⟩
    have e : b = s1.heap.objs.size := by simpa using hb
    subst e
    exact I1.fpOk (Nat.le_refl _) (I1.hok.fresh (Nat.le_refl _))
  · obtain ⟨its, rv, p, hz⟩ := I1.tuple hq
    refine wpAny_pyIter_tuple (show s1.heap.IsTuple a its.toArray from p) ?_
    refine ⟨s1.heap.objs.size, [s1.heap.objs.size], _, _, H1, rfl, I1.kept (t' := s1.toks) fun b o e => Heap.get?_push_of_some _ e, turn_tuple a _, ⟨_, Heap.get?_push_size _ rfl, rfl, rfl⟩, fun b hb => ?_, q⟩
    have e : b = s1.heap.objs.size := by simpa using hb
    subst e
    exact I1.fpOk (Nat.le_refl _) (I1.hok.fresh (Nat.le_refl _))
theorem items_ok {d : D} {μ : Sto} {σ : L2.St} {F : List D → Sto → Prop} (h : ResG C σ (items d μ) F) : (∃ b ds, d = .lst b ds ∧ F ds μ) ∨ ∃ ds, d = .tup ds ∧ F ds μ := by
  cases d with
  | lst b ds => exact .inl ⟨b, ds, rfl, h⟩
  | tup ds => exact .inr ⟨ds, rfl, h⟩
  | _ => exact h.elim
theorem fz_lst {d : D} {b : Bool} {ds : List D} (h : d.fz = .lst b ds) : b = false := by
  cases d <;> simp [D.fz] at h
  exact h.1.symm ▸ rfl
theorem ok_iseq (h : OkE C e f) : OkI C tg e (fun ρ => M.bind (fzK f ρ) items) :=
  PI_imp (pi_seq h) fun σ H R ⟨s, ρ, own, μ, e1, p, q⟩ => ⟨s, ρ, own, μ, e1, p, q.bind.bind.mono fun d μ1 h1 v s1 o po => by
    obtain ⟨ev, wd, r⟩ := po.fzn
    have h1 : ResG C σ (items d.fz μ1) _ := h1
    rcases items_ok h1 with ⟨b, ds, ed, hF⟩ | ⟨ds, ed, hF⟩
    · have hb := fz_lst ed
      subst hb
      rw [ed] at r
      obtain ⟨a, vs, ev', hq, _, rr⟩ := r
      exact ⟨a, ev', .inl ⟨⟨vs, hq.sq⟩, hF _ (s1.less o) ev wd (walkK_lst hq rr)⟩⟩
    · rw [ed] at r
      obtain ⟨a, vs, ev', hq, rr⟩ := r
      exact ⟨a, ev', .inr ⟨⟨vs, hq⟩, hF _ (s1.less o) ev wd (walkK_tup hq rr)⟩⟩⟩
end
end Vf

/-! V9 -/
set_option autoImplicit false
set_option linter.all false
set_option Elab.async false
set_option maxHeartbeats 1000000
/-! V9: ranges, enumerate, zip, reversed; comprehensions. -/
namespace Vf
open PySem PySem.Spec PyProof.Rows L2

section
variable {C : Ctx} {tg e e2 a b : Expr} {f g : Env → M D} {pos p tpos : Pos}
theorem p62 : (4611686018427387904 : Int) = 2 ^ 62 := by decide
def rng1K (f : Env → M D) : Env → M (List D) := fun ρ => M.bind (f ρ) fun | .int j => rng 0 j | _ => M.bad
def rng2K (f g : Env → M D) : Env → M (List D) := fun ρ => M.bind (f ρ) fun x => M.bind (g ρ) fun y => match x, y with | .int i, .int j => rng i j | _, _ => M.bad
theorem ok_irng1 (hg : Gl C.X "range") (hm : C.X.mg "range" = none) (h : OkE C a f) (hs : notStar a = true) : OkI C tg (.Call (.Name "range" p) [a] [] pos) (rng1K f) :=
  PI_imp (pi_range1 hg hm (pa_cons h pa_nil (notStar_ok hs [] _)) (notStar_ok hs [] _)) fun σ H R ⟨s, ρ, own, μ, e1, p, q⟩ => ⟨s, ρ, own, μ, e1, p, q.bind.mono fun d μ1 h1 v s1 o po => by
    cases d with
    | int j =>
      obtain ⟨g, h1⟩ := (show ResG C σ (rng 0 j μ1) _ from h1).guard
      have g := of_decide_eq_true g
      have h1 := h1.ret (Itr 0 j.toNat) s1 po.ev po.wd (by have z := walkK_rng (K := C.K) (w := C.w) (s := s1) (i := 0) (j := j); simpa using z)
      exact ⟨j, by rw [po.rep.1], by rw [← p62]; exact g.2.2.1, by rw [← p62]; exact g.2.2.2, h1⟩
    | _ => exact h1.elim⟩
theorem ok_irng2 (hg : Gl C.X "range") (hm : C.X.mg "range" = none) (ha : OkE C a f) (hb : OkE C b g) (hs : notStar a = true) (hs2 : notStar b = true) : OkI C tg (.Call (.Name "range" p) [a, b] [] pos) (rng2K f g) :=
  PI_imp (pi_range2 hg hm (pa_cons ha (pa_cons hb pa_nil (notStar_ok hs2 [] _)) (notStar_ok hs _ _)) (by rw [notStar_ok hs, notStar_ok hs2]; rfl) (by rw [notStar_ok hs2]; rfl)) fun σ H R ⟨s, ρ, own, μ, e1, p, q⟩ => ⟨s, ρ, own, μ, e1, p, q.bind.mono fun d μ1 h1 v s1 o po =>
    ⟨s1, ρ, own, μ1, rfl, p.step po.ev po.wd, h1.bind.mono fun d2 μ2 h2 v2 s2 o2 po2 => by
      cases d with
      | int i =>
        cases d2 with
        | int j =>
          obtain ⟨g, h1⟩ := (show ResG C σ (rng i j μ2) _ from h2).guard
          have g := of_decide_eq_true g
          have h1 := h1.ret (Itr i (j - i).toNat) s2 (po.ev.trans po2.ev) po2.wd walkK_rng
          rw [p62] at g
          exact ⟨i, j, by rw [po.rep.1, po2.rep.1], g, h1⟩
        | _ => exact h2.elim
      | _ => exact h2.elim⟩⟩
theorem itemsL_ok {d : D} {μ : Sto} {σ : L2.St} {F : List D → Sto → Prop} (h : ResG C σ (itemsL d μ) F) : ∃ b ds, d = .lst b ds ∧ F ds μ := by
  cases d with
  | lst b ds => exact ⟨b, ds, rfl, h⟩
  | _ => exact h.elim
def enumK (f : Env → M D) : Env → M (List D) := fun ρ => M.bind (fzK f ρ) fun x => M.bind (itemsL x) fun ds => M.ret (num 0 ds)
theorem ok_ienum {elts : List Expr} {kk : Nat} (hg : Gl C.X "enumerate") (hm : C.X.mg "enumerate" = none) (h : OkE C e f) (hs : notStar e = true) : OkI C (.Tuple elts kk tpos) (.Call (.Name "enumerate" p) [e] [] pos) (enumK f) :=
  PI_imp (pi_enum hg hm (pa_cons h pa_nil (notStar_ok hs [] _)) (notStar_ok hs [] _)) fun σ H R ⟨s, ρ, own, μ, e1, p, q⟩ => ⟨s, ρ, own, μ, e1, p, q.bind.bind.mono fun d μ1 h1 v s1 o po => by
    obtain ⟨ev, wd, r⟩ := po.fzn
    have h1 : ResG C σ (M.bind (itemsL d.fz) (fun ds => M.ret (num 0 ds)) μ1) _ := h1
    obtain ⟨b, ds, ed, hF⟩ := itemsL_ok h1.bind
    have hb := fz_lst ed
    subst hb
    rw [ed] at r
    obtain ⟨a, vs, ev', hq, _, rr⟩ := r
    exact ⟨a, vs, by rw [ev'], hq.sq, hF.ret _ (s1.less o) ev wd (walkK_enum hq rr)⟩⟩
def irevK (f : Env → M D) : Env → M (List D) := fun ρ => M.bind (fzK f ρ) fun x => M.bind (itemsL x) fun ds => M.ret ds.reverse
theorem ok_irev (hg : Gl C.X "reversed") (hm : C.X.mg "reversed" = none) (h : OkE C e f) (hs : notStar e = true) : OkI C tg (.Call (.Name "reversed" p) [e] [] pos) (irevK f) :=
  PI_imp (pi_reversed hg hm (pa_cons h pa_nil (notStar_ok hs [] _)) (notStar_ok hs [] _)) fun σ H R ⟨s, ρ, own, μ, e1, p, q⟩ => ⟨s, ρ, own, μ, e1, p, q.bind.bind.mono fun d μ1 h1 v s1 o po => by
    obtain ⟨ev, wd, r⟩ := po.fzn
    have h1 : ResG C σ (M.bind (itemsL d.fz) (fun ds => M.ret ds.reverse) μ1) _ := h1
    obtain ⟨b, ds, ed, hF⟩ := itemsL_ok h1.bind
    have hb := fz_lst ed
    subst hb
    rw [ed] at r
    obtain ⟨a, vs, ev', hq, _, rr⟩ := r
    exact ⟨a, vs, by rw [ev'], hq.sq, hF.ret _ (s1.less o) ev wd (walkK_rev hq rr)⟩⟩
end

/-! ### comprehensions -/
/-- within a block no exception is borne -/
abbrev Ctx.nx (C : Ctx) : Ctx := { C with W := fun _ _ _ _ => False }
/-- the context of a block -/
abbrev Ctx.blk (C : Ctx) (s : Shared) (H : Hp) (scope : Scope) (cenv : PySem.Env) (fp : List Addr) : Ctx := { C with X := C.X.blk s H scope cenv fp, W := fun _ _ _ _ => False }
section
variable {C : Ctx}
theorem Pre.nx {s : Sx} {ρ : Env} {σ : L2.St} {own : Nat → List Addr} {μ : Sto} (p : Pre C s ρ σ own μ) : Pre C.nx s ρ σ own μ := ⟨p.r, p.wd, p.ev, p.fr⟩
theorem Pre.unnx {s : Sx} {ρ : Env} {σ : L2.St} {own : Nat → List Addr} {μ : Sto} (p : Pre C.nx s ρ σ own μ) : Pre C s ρ σ own μ := ⟨p.r, p.wd, p.ev, p.fr⟩
theorem Frs.unnx {s : Sx} {own : Nat → List Addr} {o : List Addr} (p : Frs C.nx s own o) : Frs C s own o := ⟨p.nd, p.ow, p.ap⟩
/-- readings of a block, the same for every block -/
theorem blkE {s : Shared} {H : Hp} {scope : Scope} {cenv : PySem.Env} {fp : List Addr} {e : Expr} {f : Env → M D} (h : OkE (C.blk s H scope cenv fp) e f) : PE (C.X.blk s H scope cenv fp) e (tD C.nx f) :=
  PE_imp h fun σ H Q ⟨s, ρ, own, μ, e1, p, q⟩ => ⟨s, ρ, own, μ, e1, ⟨p.r, p.wd, p.ev, p.fr⟩, q⟩
theorem blkT {s : Shared} {H : Hp} {scope : Scope} {cenv : PySem.Env} {fp : List Addr} {e : Expr} {f : Env → M Bool} (h : OkT (C.blk s H scope cenv fp) e f) : PT (C.X.blk s H scope cenv fp) e (tDT C.nx f) :=
  PT_imp h fun σ H Q ⟨s, ρ, own, μ, e1, p, q⟩ => ⟨s, ρ, own, μ, e1, ⟨p.r, p.wd, p.ev, p.fr⟩, q⟩
theorem blkG {s : Shared} {H : Hp} {scope : Scope} {cenv : PySem.Env} {fp : List Addr} {e : Expr} {t : T} (h : OkG (C.blk s H scope cenv fp) e t) : PG (C.X.blk s H scope cenv fp) e (tG C.nx t) :=
  PG_imp h fun v σ H Q ⟨s, ρ, own, μ, d, o, ρ', e1, p, r, f, ea, k⟩ => ⟨s, ρ, own, μ, d, o, ρ', e1, ⟨p.r, p.wd, p.ev, p.fr⟩, r, ⟨f.nd, f.ow, f.ap⟩, ea, fun σ' own' p' oi so => k σ' own' ⟨p'.r, p'.wd, p'.ev, p'.fr⟩ oi so⟩
theorem blkI {s : Shared} {H : Hp} {scope : Scope} {cenv : PySem.Env} {fp : List Addr} {tg e : Expr} {f : Env → M (List D)} (h : OkI (C.blk s H scope cenv fp) tg e f) : PI (C.X.blk s H scope cenv fp) tg e (tI C.nx f) :=
  PI_imp h fun σ H Q ⟨s, ρ, own, μ, e1, p, q⟩ => ⟨s, ρ, own, μ, e1, ⟨p.r, p.wd, p.ev, p.fr⟩, q⟩
def OkTs (C : Ctx) (es : List Expr) (f : Env → M Bool) : Prop := PTs C.X es (tDT C f)
theorem PTs_imp {X : Cx} {e : List Expr} {t t' : TT} (h : PTs X e t) (i : ∀ σ H Q, t' σ H Q → t σ H Q) : PTs X e t' := ⟨fun pins s σ H Q I q => h.run pins s σ H Q I (i σ H Q q)⟩
theorem ok_tsnil : OkTs C [] (fun _ => M.ret true) := PTs_imp pts_nil fun σ H Q ⟨s, ρ, own, μ, e1, p, q⟩ => by
  show Q true H
  rw [← e1]
  exact q.ret s (Ev.refl s) p.wd
theorem ok_tsone {c : Expr} {f : Env → M Bool} (h : OkT C c f) : OkTs C [c] f := pts_one h
theorem blkTs {s : Shared} {H : Hp} {scope : Scope} {cenv : PySem.Env} {fp : List Addr} {e : List Expr} {f : Env → M Bool} (h : OkTs (C.blk s H scope cenv fp) e f) : PTs (C.X.blk s H scope cenv fp) e (tDT C.nx f) :=
  PTs_imp h fun σ H Q ⟨s, ρ, own, μ, e1, p, q⟩ => ⟨s, ρ, own, μ, e1, ⟨p.r, p.wd, p.ev, p.fr⟩, q⟩
end
/-! the list that is being made -/
structure Acc (C : Ctx) (s1 s : Sx) (Dd : Addr) (acc : List D) : Prop where
  ev : Ev s1 s
  oD : s.O Dd
  nD : Dd ∉ s.ι
  h1 : s1.H Dd = none
  rep : ∃ accV o, s.H Dd = some (.lst accV) ∧ RepL C.K C.w s acc accV o ∧ (Dd :: o).Nodup ∧ ∀ a ∈ o, s.O a ∧ ¬ s1.O a ∧ a ∉ s.ι
section
variable {C : Ctx} {s1 s s' : Sx} {own : Nat → List Addr} {Dd : Addr} {acc : List D} {μ μ' : Sto} {ρ ρ1 : Env} {σ σ1 : L2.St}
theorem Acc.step (a : Acc C s1 s Dd acc) (e : Ev s s') (W : Wd C.K C.w s μ) : Acc C s1 s' Dd acc := by
  obtain ⟨accV, o, hD, r, nd, ow⟩ := a.rep
  refine ⟨a.ev.trans e, e.up _ a.oD, e.noIn (by rw [hD]; simp) a.nD, a.h1, accV, o, e.ext _ _ hD a.nD, e.repLo W r fun b hb => ⟨(ow b hb).1, (ow b hb).2.2⟩, nd, fun b hb => ?_⟩
  have := e.ownS W (o := o) (fun b hb => ⟨(ow b hb).1, (ow b hb).2.2⟩) b hb
  exact ⟨this.1, (ow b hb).2.1, this.2⟩
theorem Acc.start (p : Pre C s1 ρ σ own μ) (h : s1.H Dd = none) : Acc C s1 (s1.own Dd (.lst [])) Dd [] ∧ Pre C (s1.own Dd (.lst [])) ρ σ own μ := by
  have e := Ev.ownN (s := s1) (u := .lst []) h
  have W := p.wd.ownN h (u := .lst []) trivial
  refine ⟨⟨e, .inr rfl, fun z => mut_ne (p.wd.mt Dd (p.wd.sub Dd z)) h, h, [], [], upd_same, ⟨rfl, rfl⟩, by simp, (fun _ z => nomatch z)⟩, p.step e W⟩
/-- one more item -/
theorem Acc.app (a : Acc C s1 s Dd acc) (W : Wd C.K C.w s μ) {y : D} {v : V} {o' : List Addr} (po : Post C.K C.w s s' μ' y v o') :
    ∃ accV, s'.H Dd = some (.lst accV) ∧ acc.length = accV.length ∧ Acc C s1 (s'.put Dd (.lst (accV ++ [v]))) Dd (acc ++ [y]) := by
  have oD := po.ev.up _ a.oD
  obtain ⟨accV, o, hD, r, nd, ow⟩ := a.rep
  have nD : Dd ∉ s'.ι := po.ev.noIn (by rw [hD]; simp) a.nD
  have nd2 := List.nodup_cons.mp nd
  have hDo' : Dd ∉ o' := fun z => (po.ow Dd z).2.1 a.oD
  have keep : ∀ b, b ≠ Dd → (s'.put Dd (.lst (accV ++ [v]))).H b = s'.H b := fun b e => upd_ne e
  have kp := Kp.put (u := .lst (accV ++ [v])) po.wd oD
  have et := a.ev.trans po.ev
  refine ⟨accV, po.ev.ext _ _ hD a.nD, r.len, ?_, oD, nD, a.h1, accV ++ [v], o ++ o', upd_same, ?_, ?_, fun b hb => ?_⟩
  · exact ⟨fun b x h n => (keep b fun e => by rw [e, a.h1] at h; cases h).trans (et.ext b x h n), et.pre, et.up, et.dn, fun b h => by
      by_cases e : b = Dd
      · rw [e]; exact a.h1
      · rw [keep b e] at h; exact et.live b h⟩
  · have r1 := RepL.keep kp _ _ _ (po.ev.repLo W r fun b hb => ⟨(ow b hb).1, (ow b hb).2.2⟩) fun b hb => keep b fun e => nd2.1 (by rw [← e]; exact hb)
    have r2 := Rep.keep kp _ _ _ po.rep fun b hb => keep b fun e => hDo' (by rw [← e]; exact hb)
    exact RepL.append r1 ⟨v, [], o', [], rfl, by simp, r2, rfl, rfl⟩
  · exact List.nodup_cons.mpr ⟨fun z => (List.mem_append.mp z).elim nd2.1 hDo', List.nodup_append.mpr ⟨nd2.2, po.nd, fun b hb c hc e => (po.ow c hc).2.1 (by rw [← e]; exact (ow b hb).1)⟩⟩
  · rcases List.mem_append.mp hb with hb | hb
    · have := po.ev.ownS W (o := o) (fun b hb => ⟨(ow b hb).1, (ow b hb).2.2⟩) b hb
      exact ⟨this.1, (ow b hb).2.1, this.2⟩
    · exact ⟨(po.ow b hb).1, fun z => (po.ow b hb).2.1 (a.ev.up b z), (po.ow b hb).2.2⟩
end
/-- a loop's turns -/
theorem loop_it {J : It} {n : Nat} {G : Hp → Prop} {Y : Nat → Hp → V → Hp → Prop} (w : Walk J n G Y) (Body : (Hp → Prop) → V → Hp → Prop) {H0 : Hp} {Qd : Hp → Prop} (Pv : Nat → Hp → Prop) (h0 : Pv 0 H0) (hG : ∀ i H, i ≤ n → Pv i H → G H)
    (hs : ∀ i x H H', i < n → Pv i H → Y i H x H' → Body (Pv (i + 1)) x H') (hd : ∀ H, Pv n H → Qd H) :
    ∃ W : Nat → Nat → Hp → Prop, (∃ m, W 0 m H0) ∧ ∀ i m H, W i m H →
      (J.stop i H ∧ Qd H) ∨ (J.go i H ∧ ∃ Nx : Hp → Prop, (∀ H', Nx H' → ∃ m', m' < m ∧ W (i + 1) m' H') ∧ ∀ x H', J.yld i H x H' → Body Nx x H') := by
  refine ⟨fun i m H => m = n - i ∧ i ≤ n ∧ Pv i H, ⟨n, by simp, Nat.zero_le _, h0⟩, ?_⟩
  rintro i m H ⟨rfl, hi, p⟩
  have q := hG i H hi p
  by_cases hlt : i < n
  · refine .inr ⟨w.goes i H hlt q, Pv (i + 1), fun H' p' => ⟨n - (i + 1), by omega, rfl, hlt, p'⟩, fun x H' y => hs i x H H' hlt p (w.yields i H x H' hlt q y)⟩
  · have e : i = n := by omega
    subst e
    exact .inl ⟨w.stops H q, hd H p⟩
def turnK (t : T) (fc : Env → M Bool) (fe : Env → M D) (ρ : Env) : D → M (Option D) := fun x => match asg t x (Vf.wipe ρ t.ix) with
      | some ρ' => M.bind (fc ρ') fun | true => M.bind (fe ρ') fun y => M.ret (some y) | false => M.ret none
      | none => M.bad
/-- what a turn is to reach -/
def BodyL (C : Ctx) (t : T) (fc : Env → M Bool) (fe : Env → M D) (σ : L2.St) (Dd : Addr) : (Hp → Prop) → V → Hp → Prop := fun Nx x H' =>
  tG C.nx t x (L2.wipe σ t.ix) H' fun σ2 H2 => L2.wipe σ2 t.ix = L2.wipe σ t.ix ∧ tDT C.nx fc σ2 H2 fun b H3 =>
    if b = true then tD C.nx fe σ2 H3 fun y H4 => ∃ acc, H4 Dd = some (.lst acc) ∧ acc.length < sizeLine ∧ Nx (upd H4 Dd (.lst (acc ++ [y]))) else Nx H3
theorem WalkK.mono {K : PySem.W.Frag} {w : World} {s s' : Sx} {xs : List D} {J : It} (h : WalkK K w s xs J) (g : Go s s') : WalkK K w s' xs J := by
  obtain ⟨G, Y, a, b, c⟩ := h
  exact ⟨G, Y, a, fun s2 g2 => b s2 (g.trans g2), fun i s2 μ x H' hi g2 => c i s2 μ x H' hi (g.trans g2)⟩
section
variable {C : Ctx} {s1 sA : Sx} {own ownx : Nat → List Addr} {Dd : Addr} {accA ys xs : List D} {μA μF : Sto} {ρ ρx : Env} {σ σx : L2.St} {t : T} {fc : Env → M Bool} {fe : Env → M D} {J : It} {Qd : Hp → Prop}
theorem turns (hp : Pre C.nx sA ρ σ own μA) (hx : Pre C.nx sA ρx σx ownx μA) (hd : ∀ j, Dd ∉ own j) (hdx : ∀ j, Dd ∉ ownx j) (ha : Acc C s1 sA Dd accA) (h0 : C.s0.H Dd = none) (wk : WalkK C.K C.w sA xs J)
    (he : mapC (turnK t fc fe ρ) xs accA μA = .ok ys μF) (hF : ∀ s', Go sA s' → Pre C.nx s' ρ σ own μF → Pre C.nx s' ρx σx ownx μF → Acc C s1 s' Dd ys → Qd s'.H) :
    ∃ W : Nat → Nat → Hp → Prop, (∃ m, W 0 m sA.H) ∧ ∀ i m H, W i m H →
      (J.stop i H ∧ Qd H) ∨ (J.go i H ∧ ∃ Nx : Hp → Prop, (∀ H', Nx H' → ∃ m', m' < m ∧ W (i + 1) m' H') ∧ ∀ x H', J.yld i H x H' → BodyL C t fc fe σ Dd Nx x H') := by
  obtain ⟨G, Y, wlk, hG, hY⟩ := wk
  refine loop_it wlk (BodyL C t fc fe σ Dd) (fun i H => ∃ si μi acc, si.H = H ∧ Go sA si ∧ Pre C.nx si ρ σ own μi ∧ Pre C.nx si ρx σx ownx μi ∧ Acc C s1 si Dd acc ∧ mapC (turnK t fc fe ρ) (xs.drop i) acc μi = .ok ys μF)
    ⟨sA, μA, accA, rfl, Go.refl hp.wd, hp, hx, ha, by simpa using he⟩ (fun i H _ ⟨si, μi, acc, e, g, _⟩ => e ▸ hG si g) (fun i x H H' hi ⟨si, μi, acc, eH, g, p, px, a, em⟩ y => ?_) (fun H ⟨si, μi, acc, eH, g, p, px, a, em⟩ => ?_)
  · subst eH
    obtain ⟨s3, d, eH', ev3, wd3, hxi, r⟩ := hY i si μi x H' hi g p.wd y
    have edrop : xs.drop i = d :: xs.drop (i + 1) := by
      have e2 : xs[i] = d := by rw [List.getElem?_eq_getElem hi] at hxi; exact Option.some.inj hxi
      rw [List.drop_eq_getElem_cons hi, e2]
    rw [edrop] at em
    obtain ⟨ro, μ1, em1, em2⟩ := bind_ok (show M.bind (turnK t fc fe ρ d) _ μi = .ok ys μF from em)
    unfold turnK at em1
    cases ea : asg t d (Vf.wipe ρ t.ix) with
    | none => rw [ea] at em1; cases em1
    | some ρ' =>
      rw [ea] at em1
      obtain ⟨b, μ2, ec, em3⟩ := bind_ok em1
      refine ⟨s3, Vf.wipe ρ t.ix, own, μi, d, [], ρ', eH', (p.step ev3 wd3).wipe t.ix, r, Frs.nil, ea, fun σ2 own2 p2 _ so => ⟨(so.wipe fun i h => h).trans wipe_wipe, s3, ρ', own2, μi, rfl, p2, ?_⟩⟩
      rw [ec]
      intro s4 ev4 wd4
      have e34 := ev3.trans ev4
      cases b with
      | false =>
        rw [if_neg Bool.false_ne_true]
        cases em3
        exact ⟨s4, μ1, acc, rfl, g.trans (e34.go p.wd), p.step e34 wd4, px.step e34 wd4, a.step e34 p.wd, em2⟩
      | true =>
        rw [if_pos rfl]
        obtain ⟨y', μ3, ee, em4⟩ := bind_ok em3
        cases em4
        refine ⟨s4, ρ', own2, μ2, rfl, p2.step ev4 wd4, ?_⟩
        rw [ee]
        intro v s5 o' po
        have a4 := a.step e34 p.wd
        obtain ⟨accV, hD, hl, a6⟩ := a4.app wd4 po
        have em5 : guard' (decide (acc.length < LINE)) (mapC (turnK t fc fe ρ) (xs.drop (i + 1)) (acc ++ [y'])) μ1 = .ok ys μF := em2
        cases hg : decide (acc.length < LINE) with
        | false => rw [hg] at em5; cases em5
        | true =>
          rw [hg] at em5
          have e35 := e34.trans po.ev
          have p5 := p.step e35 po.wd
          have px5 := px.step e35 po.wd
          have oD5 := po.ev.up _ a4.oD
          have nD5 : Dd ∉ s5.ι := a6.nD
          refine ⟨accV, hD, by rw [← line_eq, ← hl]; exact of_decide_eq_true hg, s5.put Dd (.lst (accV ++ [v])), μ1, acc ++ [y'], rfl, (g.trans (e35.go p.wd)).trans (Go.put po.wd oD5), p5.put (u := .lst (accV ++ [v])) oD5 nD5 h0 hd trivial, px5.put (u := .lst (accV ++ [v])) oD5 nD5 h0 hdx trivial, a6, em5⟩
  · subst eH
    have en : xs.drop xs.length = [] := by simp
    rw [en] at em
    cases em
    exact hF si g p px a
end
theorem nox_ok {α β : Type} {C : Ctx} {σ : L2.St} {m : M α} {k : α → M β} {μ : Sto} {F : β → Sto → Prop} (h : ResG C σ (M.bind (nox m) k μ) F) : ∃ a μ', m μ = .ok a μ' ∧ ResG C σ (k a μ') F := by
  unfold M.bind nox at h
  cases e : m μ with
  | ok a μ' => rw [e] at h; exact ⟨a, μ', rfl, h⟩
  | exc c fs μ' => rw [e] at h; exact h.elim
  | bad => rw [e] at h; exact h.elim
theorem own_ne {C : Ctx} {s : Sx} {ρ : Env} {σ : L2.St} {own : Nat → List Addr} {μ : Sto} (p : Pre C s ρ σ own μ) {Dd : Addr} (h : s.H Dd = none) : ∀ j, Dd ∉ own j := fun j z => mut_ne (p.wd.mt Dd (p.r.ow j Dd z).1) h
theorem Acc.post {C : Ctx} {s1 s : Sx} {Dd : Addr} {ys : List D} {μ : Sto} (a : Acc C s1 s Dd ys) (W : Wd C.K C.w s μ) (W1 : ∀ b, s1.O b → Mut (s1.H b)) : ∃ o, Post C.K C.w s1 s μ (.lst true ys) (.ref Dd) o := by
  obtain ⟨accV, o, hD, r, nd, ow⟩ := a.rep
  refine ⟨Dd :: o, a.ev, W, ⟨Dd, accV, o, rfl, hD, rfl, r⟩, nd, fun b hb => ?_⟩
  rcases List.mem_cons.mp hb with e | hb
  · rw [e]; exact ⟨a.oD, fun z => mut_ne (W1 Dd z) a.h1, a.nD⟩
  · exact ow b hb
def lcK (fi : Env → M (List D)) (t : T) (fc : Env → M Bool) (fe : Env → M D) : Env → M D := fun ρ => M.bind (fi ρ) fun xs => M.bind (nox (mapC (turnK t fc fe ρ) xs [])) fun ys => M.ret (.lst true ys)
theorem rd_lc {C : Ctx} {fi : Env → M (List D)} {t : T} {fc : Env → M Bool} {fe : Env → M D} {σ : L2.St} {H : Hp} {Q : VK} (h : tD C (lcK fi t fc fe) σ H Q) : tLc (tI C fi) (tG C.nx t) (tDT C.nx fc) (tD C.nx fe) t.ix σ H Q := by
  obtain ⟨s, ρ, own, μ, e1, p, q⟩ := h
  refine ⟨s, ρ, own, μ, e1, p, q.bind.mono fun xs μ1 h1 J s1 ev wd wk Dd hD => ?_⟩
  obtain ⟨ys, μF, em, hF⟩ := nox_ok h1
  have p1 := p.step ev wd
  obtain ⟨a0, p0⟩ := Acc.start p1 hD
  refine turns (C := C) (Qd := fun H => Q (.ref Dd) H) p0.nx p0.nx (own_ne p1 hD) (own_ne p1 hD) a0 (p1.ev.live Dd hD) (wk.mono (a0.ev.go p1.wd)) em fun s' g p' _ a => ?_
  obtain ⟨o, po⟩ := a.post p'.wd p1.wd.mt
  exact hF.ret (.ref Dd) s' o (po.tr ev)
def lc2K (fi : Env → M (List D)) (t : T) (fi2 : Env → M (List D)) (t2 : T) (fc : Env → M Bool) (fe : Env → M D) : Env → M D := fun ρ => M.bind (fi ρ) fun xs => M.bind (nox (foldC (fun x acc => match asg t x (Vf.wipe ρ (t.ix ++ t2.ix)) with
      | some ρ1 => M.bind (fi2 ρ1) fun ys => mapC (turnK t2 fc fe ρ1) ys acc
      | none => M.bad) xs [])) fun ys => M.ret (.lst true ys)
theorem rd_lc2 {C : Ctx} {fi fi2 : Env → M (List D)} {t t2 : T} {fc : Env → M Bool} {fe : Env → M D} {σ : L2.St} {H : Hp} {Q : VK} (h : tD C (lc2K fi t fi2 t2 fc fe) σ H Q) :
    tLc2 (tI C fi) (tG C.nx t) (tDT C.nx fun _ => M.ret true) (tI C.nx fi2) (tG C.nx t2) (tDT C.nx fc) (tD C.nx fe) (t.ix ++ t2.ix) t2.ix σ H Q := by
  obtain ⟨s, ρ, own, μ, e1, p, q⟩ := h
  refine ⟨s, ρ, own, μ, e1, p, q.bind.mono fun xs μ1 h1 J s1 ev wd wk Dd hD => ?_⟩
  obtain ⟨ys, μF, em, hF⟩ := nox_ok h1
  have p1 := p.step ev wd
  have h0 := p1.ev.live Dd hD
  obtain ⟨a0, p0⟩ := Acc.start p1 hD
  have wk := wk.mono (a0.ev.go p1.wd)
  obtain ⟨G, Y, wlk, hG, hY⟩ := wk
  refine loop_it wlk (fun Nx x H' => tG C.nx t x (L2.wipe σ (t.ix ++ t2.ix)) H' fun σ2 H2 => L2.wipe σ2 (t.ix ++ t2.ix) = L2.wipe σ (t.ix ++ t2.ix) ∧ tDT C.nx (fun _ => M.ret true) σ2 H2 fun b H3 =>
    if b = true then tI C.nx fi2 σ2 H3 fun J1 H4 => ∃ W1 : Nat → Nat → Hp → Prop, (∃ m, W1 0 m H4) ∧ ∀ j k H, W1 j k H →
      (J1.stop j H ∧ Nx H) ∨ (J1.go j H ∧ ∃ Nx1 : Hp → Prop, (∀ H', Nx1 H' → ∃ k', k' < k ∧ W1 (j + 1) k' H') ∧ ∀ x H', J1.yld j H x H' → BodyL C t2 fc fe σ2 Dd Nx1 x H')
    else Nx H3)
    (fun i H => ∃ si μi acc, si.H = H ∧ Go (s1.own Dd (.lst [])) si ∧ Pre C.nx si ρ σ own μi ∧ Acc C s1 si Dd acc ∧ foldC (fun x acc => match asg t x (Vf.wipe ρ (t.ix ++ t2.ix)) with
      | some ρ1 => M.bind (fi2 ρ1) fun ys => mapC (turnK t2 fc fe ρ1) ys acc
      | none => M.bad) (xs.drop i) acc μi = .ok ys μF)
    ⟨s1.own Dd (.lst []), μ1, [], rfl, Go.refl p0.wd, p0.nx, a0, by simpa using em⟩ (fun i H _ ⟨si, μi, acc, e, g, _⟩ => e ▸ hG si g) (fun i x H H' hi ⟨si, μi, acc, eH, g, p, a, em⟩ y => ?_) (fun H ⟨si, μi, acc, eH, g, p, a, em⟩ => ?_)
  · subst eH
    obtain ⟨s3, d, eH', ev3, wd3, hxi, r⟩ := hY i si μi x H' hi g p.wd y
    have edrop : xs.drop i = d :: xs.drop (i + 1) := by
      have e2 : xs[i] = d := by rw [List.getElem?_eq_getElem hi] at hxi; exact Option.some.inj hxi
      rw [List.drop_eq_getElem_cons hi, e2]
    rw [edrop] at em
    obtain ⟨acc', μ2, em1, em2⟩ := bind_ok em
    dsimp only at em1
    cases ea : asg t d (Vf.wipe ρ (t.ix ++ t2.ix)) with
    | none => rw [ea] at em1; cases em1
    | some ρ1 =>
      rw [ea] at em1
      obtain ⟨zs, μ3, ei, em3⟩ := bind_ok em1
      refine ⟨s3, Vf.wipe ρ (t.ix ++ t2.ix), own, μi, d, [], ρ1, eH', (p.step ev3 wd3).wipe _, r, Frs.nil, ea, fun σ2 own2 p2 oi so => ⟨(so.wipe fun i h => List.mem_append_left _ h).trans wipe_wipe, s3, ρ1, own2, μi, rfl, p2, fun s4 ev4 wd4 => ?_⟩⟩
      dsimp only
      rw [if_pos rfl]
      refine ⟨s4, ρ1, own2, μi, rfl, p2.step ev4 wd4, ?_⟩
      rw [ei]
      intro J1 s5 ev5 wd5 wk5
      have e35 := ev3.trans (ev4.trans ev5)
      have hd2 : ∀ j, Dd ∉ own2 j := fun j z => by
        rcases oi j Dd z with ⟨k, z⟩ | z
        · exact own_ne p1 hD k z
        · cases z
      exact turns (C := C) (p2.step (ev4.trans ev5) wd5) (p.step e35 wd5) hd2 (own_ne p1 hD) (a.step e35 p.wd) h0 wk5 em3 fun s6 g6 p6 px6 a6 =>
        ⟨s6, μ2, acc', rfl, (g.trans (e35.go p.wd)).trans g6, px6, a6, em2⟩
  · subst eH
    have en : xs.drop xs.length = [] := by simp
    rw [en] at em
    cases em
    obtain ⟨o, po⟩ := a.post p.wd p1.wd.mt
    exact hF.ret (.ref Dd) si o (po.tr ev)
/-! as expressions -/
section
variable {C : Ctx} {elt tg iter tg1 iter1 : Expr} {ifs : List Expr} {scope : Scope} {own : List (Str × Nat)} {pos : Pos} {fi fi2 : Env → M (List D)} {t t2 : T} {fc : Env → M Bool} {fe : Env → M D}
theorem ok_lc (hc : C.X.calm = true) (hN : C.X.N.Nodup) (hi : OkI C tg iter fi) (ok : BlkOk C.X.N C.X.env.scope scope own) (ho : own.map (·.2) = t.ix)
    (hg : ∀ s H a cl fp, OkG (C.blk s H scope (compEnvC scope cl a C.X.env) fp) tg t) (ht : ∀ s H a cl fp, OkTs (C.blk s H scope (compEnvC scope cl a C.X.env) fp) ifs fc)
    (he : ∀ s H a cl fp, OkE (C.blk s H scope (compEnvC scope cl a C.X.env) fp) elt fe) (hs : notSetI iter = true) : OkE C (.ListComp elt [⟨tg, iter, ifs, 0⟩] scope pos) (lcK fi t fc fe) :=
  PE_imp (pe_lc hc hN hi ok (fun s H a cl fp => blkG (hg s H a cl fp)) (fun s H a cl fp => blkTs (ht s H a cl fp)) (fun s H a cl fp => blkE (he s H a cl fp)) (notSetI_ok hs _)) fun σ H Q q => by rw [ho]; exact rd_lc q
theorem ok_lc2 (hc : C.X.calm = true) (hN : C.X.N.Nodup) (hi : OkI C tg iter fi) (ok : BlkOk C.X.N C.X.env.scope scope own) (ho : own.map (·.2) = t.ix ++ t2.ix)
    (hg : ∀ s H a cl fp, OkG (C.blk s H scope (compEnvC scope cl a C.X.env) fp) tg t) (hi1 : ∀ s H a cl fp, OkI (C.blk s H scope (compEnvC scope cl a C.X.env) fp) tg1 iter1 fi2)
    (hg1 : ∀ s H a cl fp, OkG (C.blk s H scope (compEnvC scope cl a C.X.env) fp) tg1 t2) (ht : ∀ s H a cl fp, OkTs (C.blk s H scope (compEnvC scope cl a C.X.env) fp) ifs fc)
    (he : ∀ s H a cl fp, OkE (C.blk s H scope (compEnvC scope cl a C.X.env) fp) elt fe) (hs : notSetI iter = true) (hs1 : notSetI iter1 = true) : OkE C (.ListComp elt [⟨tg, iter, [], 0⟩, ⟨tg1, iter1, ifs, 0⟩] scope pos) (lc2K fi t fi2 t2 fc fe) :=
  PE_imp (pe_lc2 (vs1 := t2.ix) hc hN hi ok (fun i h => by rw [ho]; exact List.mem_append_right _ h) (fun s H a cl fp => blkG (hg s H a cl fp)) (fun s H a cl fp => blkTs ok_tsnil) (fun s H a cl fp => blkI (hi1 s H a cl fp)) (fun s H a cl fp => blkG (hg1 s H a cl fp)) (fun s H a cl fp => blkTs (ht s H a cl fp)) (fun s H a cl fp => blkE (he s H a cl fp)) (notSetI_ok hs _) (fun env => notSetI_ok hs1 env)) fun σ H Q q => by rw [ho]; exact rd_lc2 q
end
end Vf

/-! VZ -/
set_option autoImplicit false
set_option linter.all false
set_option Elab.async false
set_option maxHeartbeats 1000000
/-! VZ: zip over lists, tuples, texts; list(enumerate(..)). -/
namespace Vf
open PySem PySem.Spec PyProof.Rows L2
/-! ### sources -/
inductive Src where
  | lst (a : Addr) | tup (a : Addr) | str (x : Str)
def Src.val : Src → V
  | .lst a => .ref a
  | .tup a => .ref a
  | .str x => .str x
def Src.At (K : PySem.W.Frag) (H : Hp) : Src → List V → Prop
  | .lst a, xs => SqL K H a xs
  | .tup a, xs => SqT K H a xs
  | .str x, xs => xs = x.cps.toList.map fun c => V.str ⟨#[c]⟩
def Src.out (b : Addr) : Src → Prop
  | .lst a => a ≠ b
  | .tup a => a ≠ b
  | .str _ => True
def Src.iter (h : Heap) (it : Addr) (i : Nat) : Src → Prop
  | .lst a => h.IsListIter it a i
  | .tup a => h.IsTupleIter it a i
  | .str x => ∃ t, h.IsStrIter it (strIterType x) x t i
theorem Src.obj {h : Heap} {it : Addr} {i : Nat} {S : Src} (hi : S.iter h it i) : ∃ o, h.get? it = some o ∧ ∀ v, o.data ≠ .cell v := by
  cases S with
  | lst a => obtain ⟨o, e, _, d⟩ := hi; exact ⟨o, e, fun v q => by rw [d] at q; cases q⟩
  | tup a => obtain ⟨o, e, _, d⟩ := hi; exact ⟨o, e, fun v q => by rw [d] at q; cases q⟩
  | str x => obtain ⟨t, o, e, _, d⟩ := hi; exact ⟨o, e, fun v q => by rw [d] at q; cases q⟩
theorem Src.keep {h h' : Heap} {it : Addr} {i : Nat} {S : Src} (hi : S.iter h it i) (k : ∀ o, h.get? it = some o → h'.get? it = some o) : S.iter h' it i := by
  cases S with
  | lst a => exact (show h.IsListIter it a i from hi).at k
  | tup a => exact (show h.IsTupleIter it a i from hi).at k
  | str x => obtain ⟨t, o, e, r⟩ := hi; exact ⟨t, o, k o e, r⟩
theorem Src.inj {X : Cx} {pins : List (Addr × Obj)} {σ : L2.St} {H : Hp} {s : Shared} (I : Inv X pins σ H s) {S : Src} {xs ys : List V} (h : S.At X.K H xs) (h' : S.At X.K H ys) : xs = ys := by
  cases S with
  | lst a => exact I.list_inj h h'
  | tup a => exact I.tuple_inj h h'
  | str x => exact (show xs = _ from h).trans (show ys = _ from h').symm
/-- what it draws -/
theorem Src.draws {X : Cx} {pins : List (Addr × Obj)} {σ : L2.St} {H : Hp} {s : Shared} (I : Inv X pins σ H s) (hc : X.calm = true) {S : Src} {xs : List V} {it : Addr} {i : Nat} (h : S.At X.K H xs) (hi : S.iter s.heap it i) (ho : S.out it) :
    ∃ (fp : List Addr) (P : Nat → Value → Prop) (St : Nat → Heap → Prop), Draws X.prog X.w X.A.in1 it fp xs.length P St ∧ St i s.heap ∧ it ∈ fp ∧ (∀ b, b ≠ it → S.out b → b ∉ fp) ∧ (∀ v x, P i v → xs[i]? = some x → RelV x v) ∧ ∀ h', St (i + 1) h' → S.iter h' it (i + 1) := by
  have hh : X.A.in1.handled = none := I.ok.hd hc
  cases S with
  | lst a =>
    obtain ⟨its, r, p, hz⟩ := I.list h
    have hl := r.length
    refine ⟨[it, a], fun i v => its.toArray[i]? = some v, fun i h => h.IsListIter it a i ∧ h.IsList a its.toArray, by have D := Draws.list (prog := X.prog) (w := X.w) hh it a ho its.toArray; rw [List.size_toArray, ← hl] at D; exact D, ⟨hi, p.isList⟩, by simp, fun b h1 h2 h3 => ?_, fun v x hv hx => ?_, fun h' z => z.1⟩
    · rcases List.mem_cons.mp h3 with z | z
      · exact h1 z
      · exact h2 (by simpa using z : b = a).symm
    · obtain ⟨u, hu, ru⟩ := r.get hx
      have e : its[i]? = some v := by simpa using hv
      rw [hu] at e; cases e; exact ru
  | tup a =>
    obtain ⟨its, r, p, hz⟩ := I.tuple h
    have hl := r.length
    refine ⟨[it, a], fun i v => its.toArray[i]? = some v, fun i h => h.IsTupleIter it a i ∧ h.IsTuple a its.toArray, by have D := Draws.tuple (prog := X.prog) (w := X.w) hh it a ho its.toArray; rw [List.size_toArray, ← hl] at D; exact D, ⟨hi, p⟩, by simp, fun b h1 h2 h3 => ?_, fun v x hv hx => ?_, fun h' z => z.1⟩
    · rcases List.mem_cons.mp h3 with z | z
      · exact h1 z
      · exact h2 (by simpa using z : b = a).symm
    · obtain ⟨u, hu, ru⟩ := r.get hx
      have e : its[i]? = some v := by simpa using hv
      rw [hu] at e; cases e; exact ru
  | str x =>
    obtain ⟨t, hi⟩ := hi
    have h : xs = x.cps.toList.map fun c => V.str ⟨#[c]⟩ := h
    refine ⟨[it], fun i v => ∃ c u, x.cps[i]? = some c ∧ v = .str ⟨#[c]⟩ u, fun i h => h.IsStrIter it (strIterType x) x t i, by have D := Draws.text (prog := X.prog) (w := X.w) hh it x t; rw [h, List.length_map, Array.length_toList]; exact D, hi, by simp, fun b h1 h2 h3 => h1 (by simpa using h3), fun v y hv hx => ?_, fun h' z => ⟨t, z⟩⟩
    obtain ⟨c, u, hcx, rfl⟩ := hv
    rw [h, List.getElem?_map, Array.getElem?_toList, hcx] at hx
    cases hx
    exact ⟨u, rfl⟩
/-- how it begins -/
def Src.ob (v : Value) : Src → Obj
  | .lst a => { cls := .type "list_iterator", data := .fields #[.ref a, .int 0 0] }
  | .tup a => { cls := .type "tuple_iterator", data := .fields #[.ref a, .int 0 0] }
  | .str x => { cls := .type (strIterType x), data := .fields #[v, .int 0 0] }
theorem Src.begins {X : Cx} {pins : List (Addr × Obj)} {σ : L2.St} {H : Hp} {s : Shared} (I : Inv X pins σ H s) {S : Src} {xs : List V} {v : Value} (h : S.At X.K H xs) (r : RelV S.val v) :
    ∃ Hh : Heap → Prop, Begins v (S.ob v) Hh ∧ Hh s.heap ∧ (∀ b, s.heap.objs.size ≤ b → S.out b) ∧ ∀ h' it, h'.get? it = some (S.ob v) → S.iter h' it 0 := by
  cases S with
  | lst a =>
    cases r
    obtain ⟨its, r, p, hz⟩ := I.list h
    refine ⟨_, begins_list a its.toArray, p.isList, fun b hb e => ?_, fun h' it e => ⟨_, e, rfl, rfl⟩⟩
    have := p.lt
    rw [e] at this
    exact absurd (Nat.lt_of_lt_of_le this hb) (Nat.lt_irrefl _)
  | tup a =>
    cases r
    obtain ⟨its, r, p, hz⟩ := I.tuple h
    refine ⟨_, begins_tuple a its.toArray, p, fun b hb e => ?_, fun h' it e => ⟨_, e, rfl, rfl⟩⟩
    have := p.lt
    rw [e] at this
    exact absurd (Nat.lt_of_lt_of_le this hb) (Nat.lt_irrefl _)
  | str x =>
    obtain ⟨t, rfl⟩ := (show ∃ t, v = Value.str x t from r)
    exact ⟨_, begins_text x t, trivial, fun b hb => trivial, fun h' it e => ⟨t, _, e, rfl, rfl⟩⟩
/-! ### zip -/
def ItzG (K : PySem.W.Frag) (A B : Src) : It :=
  ⟨fun i H => ∃ (xs ys : List V) (x y : V), A.At K H xs ∧ B.At K H ys ∧ xs[i]? = some x ∧ ys[i]? = some y,
    fun i H v H' => ∃ T x y, v = .ref T ∧ H T = none ∧ H' = upd H T (.tup [x, y]) ∧ (∀ xs, A.At K H xs → xs[i]? = some x) ∧ ∀ ys, B.At K H ys → ys[i]? = some y,
    fun i H => ∃ xs ys : List V, A.At K H xs ∧ B.At K H ys ∧ i = min xs.length ys.length⟩
structure ApartG (z TI TO i1 i2 : Addr) (A B : Src) : Prop where
  TIz : TI ≠ z
  TOz : TO ≠ z
  TITO : TI ≠ TO
  TIi1 : TI ≠ i1
  TIi2 : TI ≠ i2
  zi1 : z ≠ i1
  zi2 : z ≠ i2
  Ti1 : TO ≠ i1
  Ti2 : TO ≠ i2
  i12 : i1 ≠ i2
  A_ : A.out z ∧ A.out TO ∧ A.out i1 ∧ A.out i2
  B_ : B.out z ∧ B.out TO ∧ B.out i1 ∧ B.out i2
theorem turn_zipG {P : Program} {w : World} {K : PySem.W.Frag} {elts : List Expr} {kk : Nat} {tpos : Pos} {A B : Src} {z TI TO i1 i2 : Addr} (D : ApartG z TI TO i1 i2 A B) :
    Turn P w K (.Tuple elts kk tpos) (ItzG K A B) [z, TI, TO, i1, i2] z (fun i h => IsZip h z TI TO .none ∧ IsTupOf2 h TI (.ref i1) (.ref i2) ∧ (∃ x y, IsTupOf2 h TO x y) ∧ A.iter h i1 i ∧ B.iter h i2 i) where
  mem := by simp
  obj := fun i h st c hc => by
    obtain ⟨hz, hTI, ⟨x, y, hTO⟩, h1, h2⟩ := st
    have e' : c = z ∨ c = TI ∨ c = TO ∨ c = i1 ∨ c = i2 := by simpa using hc
    rcases e' with q | q | q | q | q
    · rw [q]; exact ⟨_, hz, fun v q => nomatch q⟩
    · rw [q]; exact ⟨_, hTI, fun v q => nomatch q⟩
    · rw [q]; exact ⟨_, hTO, fun v q => nomatch q⟩
    · rw [q]; exact Src.obj h1
    · rw [q]; exact Src.obj h2
  keep := fun i h h' st k => by
    obtain ⟨hz, hTI, ⟨x, y, hTO⟩, h1, h2⟩ := st
    exact ⟨k z (by simp) _ hz, k TI (by simp) _ hTI, ⟨x, y, k TO (by simp) _ hTO⟩, Src.keep h1 fun o q => k i1 (by simp) o q, Src.keep h2 fun o q => k i2 (by simp) o q⟩
  item := by
    intro X hP hw hK hc i pins s σ H E I hf st hg
    subst hP hw hK
    obtain ⟨hz, hTI, ⟨x0, y0, hTO⟩, h1, h2⟩ := st
    obtain ⟨xs, ys, x, y, hqx, hqy, hx, hy⟩ := hg
    obtain ⟨fp1, P1, St1, D1, st1, m1, f1, r1, n1⟩ := Src.draws I hc hqx h1 D.A_.2.2.1
    obtain ⟨fp2, P2, St2, D2, st2, m2, f2, r2, n2⟩ := Src.draws I hc hqy h2 D.B_.2.2.2
    have hzl : z < s.heap.objs.size := Heap.lt_size hz
    have S : ZipSep2 z TI TO i1 i2 fp1 fp2 := ⟨D.TIz, D.TOz, D.TITO, D.TIi1, m1, f1 z D.zi1 D.A_.1, f1 TO D.Ti1 D.A_.2.1, D.TIi2, m2, f2 z D.zi2 D.B_.1, f2 TO D.Ti2 D.B_.2.1, f2 i1 D.i12 D.B_.2.2.1, f1 i2 (Ne.symm D.i12) D.A_.2.2.2⟩
    refine wpAny_pyNext_zipD2_item S D1 D2 hz hTI hTO st1 st2 (List.getElem?_eq_some_iff.mp hx).1 (List.getElem?_eq_some_iff.mp hy).1 fun u u2 h' tk p1 p2 z' TO' h1' h2' hT hsz hk => ?_
    have ru := r1 u x p1 hx
    have ru2 := r2 u2 y p2 hy
    refine ⟨_, rfl, wpAny_letOwnedTupleGo_zip (s := { s with heap := h', toks := tk }) z' fun h'' z'' sb => ?_⟩
    have hT2 : h''.get? s.heap.objs.size = some { cls := .type "tuple", data := .seq #[u, u2] } := (sb.2 _ (Nat.ne_of_gt hzl)).trans hT
    have new : ObjOk X.prog X.w (upd H s.heap.objs.size (.tup [x, y])) h'' s.heap.objs.size (.tup [x, y]) :=
      ⟨by show 2 ≤ sizeLine; decide, [u, u2], .cons ru (.cons ru2 .nil), ⟨_, hT2, rfl, _, rfl⟩⟩
    have I1 : Inv X pins σ (upd H s.heap.objs.size (.tup [x, y])) { s with heap := h'', toks := tk } :=
      I.turnedNew (t' := tk) (ch := [z, TI, TO, i1, i2]) (fun c o hb q => (sb.2 c (fun q' => hb (by simp [q']))).trans (hk c o (fun q' => hb (by simp [q'])) (fun q' => hb (by simp [q'])) (fun q' => hb (by simp [q'])) (fun q' => hb (by simp [q'])) q)) hf (Nat.le_refl _) new
    refine ⟨.ref s.heap.objs.size, _, I1, rfl, ⟨_, x, y, rfl, I.hok.fresh (Nat.le_refl _), rfl, fun l hl => by rw [Src.inj I hl hqx]; exact hx, fun l hl => by rw [Src.inj I hl hqy]; exact hy⟩, ⟨z'', ?_, ⟨u, u2, ?_⟩, ?_, ?_⟩, fun c hcm => ?_⟩
    · exact (sb.2 _ D.TIz).trans (hk _ _ D.TIz D.TITO D.TIi1 D.TIi2 hTI)
    · exact (sb.2 _ D.TOz).trans TO'
    · exact Src.keep (n1 _ h1') fun o q => (sb.2 _ (Ne.symm D.zi1)).trans q
    · exact Src.keep (n2 _ h2') fun o q => (sb.2 _ (Ne.symm D.zi2)).trans q
    · have hlt : c < s.heap.objs.size := by
        have e' : c = z ∨ c = TI ∨ c = TO ∨ c = i1 ∨ c = i2 := by simpa using hcm
        rcases e' with q | q | q | q | q
        · rw [q]; exact hzl
        · rw [q]; exact Heap.lt_size hTI
        · rw [q]; exact Heap.lt_size hTO
        · rw [q]; obtain ⟨_, e1, _⟩ := Src.obj h1; exact Heap.lt_size e1
        · rw [q]; obtain ⟨_, e2, _⟩ := Src.obj h2; exact Heap.lt_size e2
      rw [upd_ne (Nat.ne_of_lt hlt)]
      exact (hf c hcm).1
  done := by
    intro X hP hw hK hc i pins s σ H E I hf st hg
    subst hP hw hK
    obtain ⟨hz, hTI, ⟨x0, y0, hTO⟩, h1, h2⟩ := st
    obtain ⟨xs, ys, hqx, hqy, hend⟩ := hg
    obtain ⟨fp1, P1, St1, D1, st1, m1, f1, r1, n1⟩ := Src.draws I hc hqx h1 D.A_.2.2.1
    obtain ⟨fp2, P2, St2, D2, st2, m2, f2, r2, n2⟩ := Src.draws I hc hqy h2 D.B_.2.2.2
    have S : ZipSep2 z TI TO i1 i2 fp1 fp2 := ⟨D.TIz, D.TOz, D.TITO, D.TIi1, m1, f1 z D.zi1 D.A_.1, f1 TO D.Ti1 D.A_.2.1, D.TIi2, m2, f2 z D.zi2 D.B_.1, f2 TO D.Ti2 D.B_.2.1, f2 i1 D.i12 D.B_.2.2.1, f1 i2 (Ne.symm D.i12) D.A_.2.2.2⟩
    exact wpAny_pyNext_zipD2_end S D1 D2 hz hTI hTO st1 st2 (by omega) (by omega) (by omega) fun h' tk hk => ⟨rfl, I.turnedL (t' := tk) (ch := [z, TI, TO, i1, i2]) (fun c o hb q =>
      hk c o (fun q' => hb (by simp [q'])) (fun q' => hb (by simp [q'])) (fun q' => hb (by simp [q'])) (fun q' => hb (by simp [q'])) q) hf⟩
  self := fun A i s Q E st h => wpAny_pyIter_zip st.1 h
def iZipG (K : PySem.W.Frag) (ta : TA) : TI := fun σ H R => ta σ H fun vs H1 => ∃ (A B : Src) (xs ys : List V), vs = [A.val, B.val] ∧ A.At K H1 xs ∧ B.At K H1 ys ∧ R (ItzG K A B) H1
theorem sepA (n i j : Nat) (h : i ≠ j) : (n + i : Nat) ≠ n + j := fun e => h (Nat.add_left_cancel e)
theorem pi_zipG {X : Cx} {e e2 : Expr} {ta : TA} {p pos tpos : Pos} {elts : List Expr} {kk : Nat} (hg : Gl X "zip") (hm : X.mg "zip" = none) (ha : PA X [e, e2] ta)
    (hs : starEach [e, e2] X.env = (false, eval e X.env) :: starEach [e2] X.env) (hpl : (backTo pos (starEach [e2] X.env)).any (·.1) = false) :
    PI X (.Tuple elts kk tpos) (.Call (.Name "zip" p) [e, e2] [] pos) (iZipG X.K ta) := by
  refine ⟨fun pins s σ H R I h => ?_⟩
  refine Call_ (ld_blt I hg hm PyProof.Rows.boot_zip (PyProof.Rows.callWith_type1 (thn (ha.run pos pins s σ H _ I h) fun us s1 ⟨vs, H1, I1, r1, q1⟩ => ?_) hs hpl))
  obtain ⟨A, B, xs, ys, ex, hqx, hqy, q⟩ := q1
  subst ex
  cases r1 with
  | cons r rr =>
    cases rr with
    | cons r' rr =>
      cases rr
      obtain ⟨Ha, Ba, ha1, oa, ia⟩ := Src.begins I1 hqx r
      obtain ⟨Hb, Bb, hb1, ob, ib⟩ := Src.begins I1 hqy r'
      refine zip_begins2 Ba Bb ha1 hb1 fun h' hz hTI hTO h1 h2 hsz hk => wpAny_pyIter_zip hz ?_
      have I2 : Inv X pins σ H1 { s1 with heap := h' } := I1.kept (t' := s1.toks) hk
      have D : ApartG (s1.heap.objs.size + 4) (s1.heap.objs.size + 2) (s1.heap.objs.size + 3) s1.heap.objs.size (s1.heap.objs.size + 1) A B :=
        ⟨sepA _ 2 4 (by decide), sepA _ 3 4 (by decide), sepA _ 2 3 (by decide), sepA _ 2 0 (by decide), sepA _ 2 1 (by decide), sepA _ 4 0 (by decide), sepA _ 4 1 (by decide), sepA _ 3 0 (by decide), sepA _ 3 1 (by decide), sepA _ 0 1 (by decide), ⟨oa _ (Nat.le_add_right _ _), oa _ (Nat.le_add_right _ _), oa _ (Nat.le_refl _), oa _ (Nat.le_add_right _ _)⟩, ⟨ob _ (Nat.le_add_right _ _), ob _ (Nat.le_add_right _ _), ob _ (Nat.le_refl _), ob _ (Nat.le_add_right _ _)⟩⟩
      refine ⟨s1.heap.objs.size + 4, [s1.heap.objs.size + 4, s1.heap.objs.size + 2, s1.heap.objs.size + 3, s1.heap.objs.size, s1.heap.objs.size + 1], _, _, H1, rfl, I2, turn_zipG D, ⟨hz, hTI, ⟨_, _, hTO⟩, ia _ _ h1, ib _ _ h2⟩, fun c hcm => ?_, q⟩
      have e' : c = s1.heap.objs.size + 4 ∨ c = s1.heap.objs.size + 2 ∨ c = s1.heap.objs.size + 3 ∨ c = s1.heap.objs.size ∨ c = s1.heap.objs.size + 1 := by simpa using hcm
      have hle : s1.heap.objs.size ≤ c := by
        rcases e' with z | z | z | z | z
        · rw [z]; exact Nat.le_add_right _ _
        · rw [z]; exact Nat.le_add_right _ _
        · rw [z]; exact Nat.le_add_right _ _
        · rw [z]; exact Nat.le_refl _
        · rw [z]; exact Nat.le_add_right _ _
      exact I1.fpOk hle (I1.hok.fresh hle)
theorem walk_zipG {K : PySem.W.Frag} {A B : Src} {xs ys : List V} : Walk (ItzG K A B) (min xs.length ys.length) (fun H => A.At K H xs ∧ B.At K H ys) (YPair (fun i => xs[i]?) (fun i => ys[i]?)) := by
  refine ⟨fun i _ hi q => ?_, fun _ q => ⟨xs, ys, q.1, q.2, rfl⟩, fun i H v H' _ q y => ?_⟩
  · have h1 : i < xs.length := by omega
    have h2 : i < ys.length := by omega
    exact ⟨xs, ys, xs[i], ys[i], q.1, q.2, by simp [h1], by simp [h2]⟩
  · obtain ⟨T, x, z, h1, h2, h3, h4, h5⟩ := y
    exact ⟨T, x, z, h1, h2, h3, h4 xs q.1, h5 ys q.2⟩
/-- a frozen thing as a source -/
def srcD : D → Option (List D)
  | .lst _ ds => some ds
  | .tup ds => some ds
  | .str x => some (chars x)
  | _ => none
theorem src_of {C : Ctx} {s : Sx} {d : D} {v : V} {ds : List D} (r : Rep C.K C.w s d v []) (h : srcD d = some ds) : ∃ (A : Src) (xs : List V), v = A.val ∧ (∀ s', Go s s' → A.At C.K s'.H xs) ∧ RepL C.K C.w s ds xs [] := by
  cases d with
  | lst b es =>
    cases h
    cases b with
    | true => obtain ⟨a, vs, o', e, q, eo, r⟩ := r; cases eo
    | false => obtain ⟨a, vs, e, q, eo, r⟩ := r; exact ⟨.lst a, vs, e, fun s' g => (g.fzL q).sq, r⟩
  | tup es =>
    cases h
    obtain ⟨a, vs, e, q, r⟩ := r
    exact ⟨.tup a, vs, e, fun s' g => g.kp.sqT q, r⟩
  | str x =>
    cases h
    refine ⟨.str x, _, r.1, fun s' g => rfl, ?_⟩
    unfold chars
    induction x.cps.toList with
    | nil => exact ⟨rfl, rfl⟩
    | cons c cs ih => exact RepL.cons ⟨rfl, rfl⟩ ih
  | _ => cases h
def zipK (f g : Env → M D) : Env → M (List D) := fun ρ => M.bind (fzK f ρ) fun x => M.bind (fzK g ρ) fun y => match x, y with
    | .lst _ xs, .lst _ ys => M.ret (zipD xs ys)
    | .tup xs, .tup ys => M.ret (zipD xs ys)
    | .lst _ xs, .tup ys => M.ret (zipD xs ys)
    | .str s, .lst _ ys => M.ret (zipD (chars s) ys)
    | _, _ => M.bad
theorem zip_ok {C : Ctx} {σ : L2.St} {x y : D} {μ : Sto} {F : List D → Sto → Prop} (h : ResG C σ ((match x, y with
    | .lst _ xs, .lst _ ys => M.ret (zipD xs ys)
    | .tup xs, .tup ys => M.ret (zipD xs ys)
    | .lst _ xs, .tup ys => M.ret (zipD xs ys)
    | .str s, .lst _ ys => M.ret (zipD (chars s) ys)
    | _, _ => M.bad : M (List D)) μ) F) : ∃ xs ys, srcD x = some xs ∧ srcD y = some ys ∧ F (zipD xs ys) μ := by
  cases x with
  | lst b xs =>
    cases y with
    | lst c ys => exact ⟨xs, ys, rfl, rfl, h⟩
    | tup ys => exact ⟨xs, ys, rfl, rfl, h⟩
    | _ => exact h.elim
  | tup xs =>
    cases y with
    | tup ys => exact ⟨xs, ys, rfl, rfl, h⟩
    | _ => exact h.elim
  | str z =>
    cases y with
    | lst c ys => exact ⟨chars z, ys, rfl, rfl, h⟩
    | _ => exact h.elim
  | _ => cases y <;> exact h.elim
section
variable {C : Ctx} {tg a b : Expr} {f g : Env → M D} {pos p tpos : Pos}
theorem Go.lessOf {K : PySem.W.Frag} {w : World} {s : Sx} {o : List Addr} {μ : Sto} (W : Wd K w (s.less o) μ) {A : Src} {xs : List V} (h : ∀ s', Go (s.less o) s' → A.At K s'.H xs) : A.At K s.H xs := h (s.less o) (Go.refl W)
theorem ok_izip {elts : List Expr} {kk : Nat} (hg : Gl C.X "zip") (hm : C.X.mg "zip" = none) (ha : OkE C a f) (hb : OkE C b g) (hs : notStar a = true) (hs2 : notStar b = true) : OkI C (.Tuple elts kk tpos) (.Call (.Name "zip" p) [a, b] [] pos) (zipK f g) :=
  PI_imp (pi_zipG hg hm (pa_cons ha (pa_cons hb pa_nil (notStar_ok hs2 [] _)) (notStar_ok hs _ _)) (notStar_ok hs _ _) (noStars (es := [b]) (by simp [hs2]) _ _)) fun σ H R ⟨s, ρ, own, μ, e1, p, q⟩ => ⟨s, ρ, own, μ, e1, p, q.bind.bind.mono fun d μ1 h1 v s1 o po => by
    obtain ⟨ev1, wd1, r1⟩ := po.fzn
    have h1 : ResG C σ (M.bind (fzK g ρ) (fun y => match d.fz, y with
      | .lst _ xs, .lst _ ys => M.ret (zipD xs ys)
      | .tup xs, .tup ys => M.ret (zipD xs ys)
      | .lst _ xs, .tup ys => M.ret (zipD xs ys)
      | .str s, .lst _ ys => M.ret (zipD (chars s) ys)
      | _, _ => M.bad) μ1) _ := h1
    refine ⟨s1.less o, ρ, own, μ1, rfl, p.step ev1 wd1, h1.bind.bind.mono fun d2 μ2 h2 v2 s2 o2 po2 => ?_⟩
    obtain ⟨ev2, wd2, r2⟩ := po2.fzn
    obtain ⟨xs, ys, hx, hy, hF⟩ := zip_ok (show ResG C σ ((match d.fz, d2.fz with
      | .lst _ xs, .lst _ ys => M.ret (zipD xs ys)
      | .tup xs, .tup ys => M.ret (zipD xs ys)
      | .lst _ xs, .tup ys => M.ret (zipD xs ys)
      | .str s, .lst _ ys => M.ret (zipD (chars s) ys)
      | _, _ => M.bad : M (List D)) μ2) _ from h2)
    have r1' := ev2.rep0 wd1 r1
    obtain ⟨A, xv, evA, hA, rA⟩ := src_of r1' hx
    obtain ⟨B, yv, evB, hB, rB⟩ := src_of r2 hy
    refine ⟨A, B, xv, yv, by rw [evA, evB], Go.lessOf wd2 hA, Go.lessOf wd2 hB, hF _ (s2.less o2) (ev1.trans ev2) wd2 (walkK_pair (hw := walk_zipG) (fun s' g => ⟨hA s' g, hB s' g⟩) rA rB)⟩⟩

end
end Vf

/-! V10 -/
set_option autoImplicit false
set_option linter.all false
set_option Elab.async false
set_option maxHeartbeats 1000000
/-! V10: statements. -/
namespace Vf
open PySem PySem.Spec PyProof.Rows L2

/-- what is wanted behind a statement -/
def FlP (C : Ctx) (D : Ends) (s : Sx) : Fl → Sto → Prop
  | .nx ρ', μ' => ∀ σ' own' s', Pre C s' ρ' σ' own' μ' → Go s s' → D.nx σ' s'.H
  | .brk ρ', μ' => ∀ σ' own' s', Pre C s' ρ' σ' own' μ' → Go s s' → D.bk σ' s'.H
  | .cont ρ', μ' => ∀ σ' own' s', Pre C s' ρ' σ' own' μ' → Go s s' → D.ct σ' s'.H
  | .rt d, μ' => ∀ v s' o, Post C.K C.w C.s0 s' μ' d v o → D.rt v s'.H
def tS (C : Ctx) (f : Env → M Fl) : TS := fun D σ H => ∃ s ρ own μ, s.H = H ∧ Pre C s ρ σ own μ ∧ ResG C σ (f ρ μ) (FlP C D s)
abbrev OkS (C : Ctx) (e : Stmt) (f : Env → M Fl) : Prop := PS C.X e (tS C f)
abbrev OkSs (C : Ctx) (e : List Stmt) (f : Env → M Fl) : Prop := PSs C.X e (tS C f)
/-- what is let out does not ask the slots -/
def WI (C : Ctx) : Prop := ∀ c d σ σ' h, C.W c d σ h → C.W c d σ' h
theorem ResG.sig {α : Type} {C : Ctx} (hW : WI C) {σ σ' : L2.St} {r : R α} {F : α → Sto → Prop} (h : ResG C σ r F) : ResG C σ' r F := by
  cases r with
  | ok a μ => exact h
  | exc c fs μ => exact fun s' Cl dd a b c => hW _ _ _ _ _ (h s' Cl dd a b c)
  | bad => exact h
theorem FlP.tr {C : Ctx} {D : Ends} {s s' : Sx} {fl : Fl} {μ : Sto} (h : FlP C D s fl μ) (g : Go s s') : FlP C D s' fl μ := by
  cases fl with
  | nx ρ => exact fun σ' own' s2 p g2 => h σ' own' s2 p (g.trans g2)
  | brk ρ => exact fun σ' own' s2 p g2 => h σ' own' s2 p (g.trans g2)
  | cont ρ => exact fun σ' own' s2 p g2 => h σ' own' s2 p (g.trans g2)
  | rt d => exact h
section
variable {C : Ctx} {st : Stmt} {sts : List Stmt} {e a b : Expr} {f g : Env → M D} {fs gs : Env → M Fl} {pos : Pos}
theorem ok_ssnil : OkSs C [] (fun ρ => M.ret (.nx ρ)) := PSs_imp pss_nil fun D σ H ⟨s, ρ, own, μ, e1, p, q⟩ => by
  show D.nx σ H
  rw [← e1]
  exact q.ret σ own s p (Go.refl p.wd)
def seqK (f g : Env → M Fl) : Env → M Fl := fun ρ => M.bind (f ρ) fun
    | .nx ρ' => g ρ'
    | f => M.ret f
theorem ok_sscons (hW : WI C) (h1 : OkS C st fs) (h2 : OkSs C sts gs) : OkSs C (st :: sts) (seqK fs gs) :=
  PSs_imp (pss_cons h1 h2) fun D σ H ⟨s, ρ, own, μ, e1, p, q⟩ => ⟨s, ρ, own, μ, e1, p, q.bind.mono fun fl μ1 h1 => by
    cases fl with
    | nx ρ' => exact fun σ' own' s' p' g' => ⟨s', ρ', own', μ1, rfl, p', (ResG.sig hW h1).mono fun fl μ2 h2 => h2.tr g'⟩
    | brk ρ' => exact h1.ret
    | cont ρ' => exact h1.ret
    | rt d => exact h1.ret⟩
/-- one statement's pseudo work ahead of the others -/
theorem ok_sspre {pre : Env → M Fl} (hp : ∀ s ρ σ own μ F, Pre C s ρ σ own μ → ResG C σ (pre ρ μ) F → ∃ s' ρ' own', s'.H = s.H ∧ Pre C s' ρ' σ own' μ ∧ Go s s' ∧ F (.nx ρ') μ) (h2 : OkSs C sts gs) : OkSs C sts (seqK pre gs) :=
  PSs_imp h2 fun D σ H ⟨s, ρ, own, μ, e1, p, q⟩ => by
    obtain ⟨s', ρ', own', e2, p', g', q'⟩ := hp s ρ σ own μ _ p q.bind
    exact ⟨s', ρ', own', μ, e2.trans e1, p', ResG.mono q' fun fl μ2 h2 => h2.tr g'⟩
theorem ok_pass : OkS C (.Pass pos) (fun ρ => M.ret (.nx ρ)) := PS_imp ps_pass fun D σ H ⟨s, ρ, own, μ, e1, p, q⟩ => by
  show D.nx σ H
  rw [← e1]
  exact q.ret σ own s p (Go.refl p.wd)
theorem ok_break : OkS C (.Break pos) (fun ρ => M.ret (.brk ρ)) := PS_imp ps_break fun D σ H ⟨s, ρ, own, μ, e1, p, q⟩ => by
  show D.bk σ H
  rw [← e1]
  exact q.ret σ own s p (Go.refl p.wd)
theorem ok_continue : OkS C (.Continue pos) (fun ρ => M.ret (.cont ρ)) := PS_imp ps_continue fun D σ H ⟨s, ρ, own, μ, e1, p, q⟩ => by
  show D.ct σ H
  rw [← e1]
  exact q.ret σ own s p (Go.refl p.wd)
def notComp : Expr → Bool
  | .ListComp .. => false
  | .SetComp .. => false
  | .DictComp .. => false
  | _ => true
theorem notComp_sw {e : Expr} (h : notComp e = true) (t : Option Expr) (l : Nat) (env : PySem.Env) : swapsWith e t l env = pure false := by
  cases e <;> first | rfl | cases h
theorem ok_expr (h : OkE C e f) (hs : notComp e = true) : OkS C (.Expr e pos) (fun ρ => M.bind (f ρ) fun _ => M.ret (.nx ρ)) :=
  PS_imp (ps_expr h (notComp_sw hs _ _ _)) fun D σ H ⟨s, ρ, own, μ, e1, p, q⟩ => ⟨s, ρ, own, μ, e1, p, q.bind.mono fun d μ1 h1 v s1 o po => h1.ret σ own s1 (p.step po.ev po.wd) (po.ev.go p.wd)⟩
theorem ok_doc {x : Str} {j : Nat} {pos' : Pos} : OkS C (.Expr (.Constant (.str x) j pos) pos') (fun ρ => M.ret (.nx ρ)) := PS_imp ps_doc fun D σ H ⟨s, ρ, own, μ, e1, p, q⟩ => by
  show D.nx σ H
  rw [← e1]
  exact q.ret σ own s p (Go.refl p.wd)
theorem ok_ret (h : OkE C e f) : OkS C (.Return (some e) pos) (fun ρ => M.bind (f ρ) fun d => M.ret (.rt d)) :=
  PS_imp (ps_ret h) fun D σ H ⟨s, ρ, own, μ, e1, p, q⟩ => ⟨s, ρ, own, μ, e1, p, q.bind.mono fun d μ1 h1 v s1 o po => h1.ret v s1 o (po.tr p.ev)⟩
theorem ok_retN : OkS C (.Return none pos) (fun _ => M.ret (.rt .non)) := PS_imp ps_retN fun D σ H ⟨s, ρ, own, μ, e1, p, q⟩ => by
  show D.rt .non H
  rw [← e1]
  exact q.ret .non s [] (Post.scal p.ev p.wd ⟨rfl, rfl⟩)
theorem ok_retMv {i : Nat} {x : Str} {pos' : Pos} (hN : C.X.N[i]? = some x) (hv : Vis C.X.env.scope x) (hd : (x == ("__debug__" : Str)) = false) (hc : (x == ("__classdict__" : Str)) = false) :
    OkS C (.Return (some (.Name x pos)) pos') (fun ρ => match ρ[i]? with
    | some (some d) => guard' (!d.isX) (M.ret (.rt d))
    | _ => M.bad) := PS_imp (ps_ret (pe_var hN hv hd hc)) fun D σ H ⟨s, ρ, own, μ, e1, p, q⟩ => by
  cases h : ρ[i]? with
  | none => simp only [h] at q; exact q.elim
  | some od =>
    cases od with
    | none => simp only [h] at q; exact q.elim
    | some d =>
      simp only [h] at q
      obtain ⟨n, q⟩ := q.guard
      obtain ⟨v, hv, r⟩ := p.r.at_ i d h
      have r := r.rep fun c fs e => by rw [e] at n; cases n
      refine ⟨v, hv, ?_⟩
      rw [← e1]
      exact q.ret v s (own i) ⟨p.ev, p.wd, r, p.r.nd i, fun a ha => ⟨(p.r.ow i a ha).1, p.fr i a ha, (p.r.ow i a ha).2⟩⟩
theorem ok_if {c : Expr} {as bs : List Stmt} {t : Env → M Bool} (hc : OkT C c t) (ha : OkSs C as fs) (hb : OkSs C bs gs) : OkS C (.If c as bs pos) (fun ρ => M.bind (t ρ) fun | true => fs ρ | false => gs ρ) :=
  PS_imp (ps_if hc ha hb) fun D σ H ⟨s, ρ, own, μ, e1, p, q⟩ => ⟨s, ρ, own, μ, e1, p, q.bind.mono fun k μ1 h1 s1 ev wd => by
    cases k with
    | true => exact ⟨s1, ρ, own, μ1, rfl, p.step ev wd, ResG.mono h1 fun fl μ2 h2 => h2.tr (ev.go p.wd)⟩
    | false => exact ⟨s1, ρ, own, μ1, rfl, p.step ev wd, ResG.mono h1 fun fl μ2 h2 => h2.tr (ev.go p.wd)⟩⟩
/-! assignments -/
def frD (fr : Bool) (d : D) : D := match fr with | true => d.fz | false => d
def setK (fr : Bool) (t : T) (f : Env → M D) : Env → M Fl := fun ρ => M.bind (f ρ) fun d => match asg t (frD fr d) ρ with
    | some ρ' => M.ret (.nx ρ')
    | none => M.bad
def noSwap : Expr → Expr → Bool
  | .Tuple .., .Tuple .. => false
  | .List .., .Tuple .. => false
  | _, _ => true
theorem noSwap_ok {t e : Expr} (h : noSwap t e = true) (env : PySem.Env) : swappedStores [t] e env = pure none := by
  cases t <;> first | rfl | (cases e <;> first | rfl | cases h)
theorem rd_set {fr : Bool} {t : T} {D : Ends} {σ : L2.St} {H : Hp} (h : tS C (setK fr t f) D σ H) : tD C f σ H fun x H1 => tG C t x σ H1 D.nx := by
  obtain ⟨s, ρ, own, μ, e1, p, q⟩ := h
  refine ⟨s, ρ, own, μ, e1, p, q.bind.mono fun d μ1 h1 v s1 o po => ?_⟩
  cases ea : asg t (frD fr d) ρ with
  | none => simp only [ea] at h1; exact h1.elim
  | some ρ' =>
    simp only [ea] at h1
    cases fr with
    | false => exact ⟨s1, ρ, own, μ1, d, o, ρ', rfl, p.step po.ev po.wd, po.rep, po.frs p, ea, fun σ' own' p' _ _ => h1.ret σ' own' s1 p' (po.ev.go p.wd)⟩
    | true =>
      obtain ⟨ev, wd, r⟩ := po.fzn
      exact ⟨s1.less o, ρ, own, μ1, d.fz, [], ρ', rfl, p.step ev wd, r, Frs.nil, ea, fun σ' own' p' _ _ => h1.ret σ' own' (s1.less o) p' (ev.go p.wd)⟩
theorem ok_set {fr : Bool} {tg : Expr} {t : T} (h : OkE C e f) (hg : OkG C tg t) (hs : notComp e = true) (hw : noSwap tg e = true) (hst : notStar tg = true) : OkS C (.Assign [tg] e pos) (setK fr t f) :=
  PS_imp (ps_asg h hg (notComp_sw hs _ _ _) (noSwap_ok hw _) (by rw [asgEach_ok hst]; rfl)) fun D σ H q => rd_set q
/-- name = [..] -/
theorem tG_nm {i : Nat} {v : V} {σ : L2.St} {H : Hp} {Q : L2.St → Hp → Prop} (h : tG C (.nm i) v σ H Q) : Q (σ.set i (some v)) H := by
  obtain ⟨s, ρ, own, μ, d, o, ρ', e1, p, r, f, ea, k⟩ := h
  have ea : (if i < ρ.length then some (ρ.set i (some d)) else none) = some ρ' := ea
  by_cases hl : i < ρ.length
  · rw [if_pos hl] at ea
    cases ea
    rw [← e1]
    exact k _ _ (p.set hl r f) (fun j a h => by
        by_cases e : j = i
        · simp only [if_pos e] at h; exact .inr h
        · simp only [if_neg e] at h; exact .inl ⟨j, h⟩) SameOut.set
  · rw [if_neg hl] at ea; cases ea
theorem tD_mono {σ : L2.St} {H : Hp} {Q Q' : VK} (h : tD C f σ H Q) (k : ∀ v H, Q v H → Q' v H) : tD C f σ H Q' := by
  obtain ⟨s, ρ, own, μ, e1, p, q⟩ := h
  exact ⟨s, ρ, own, μ, e1, p, q.mono fun d μ' h v s' o po => k _ _ (h v s' o po)⟩
theorem rd_setN {fr : Bool} {i : Nat} {D : Ends} {σ : L2.St} {H : Hp} (h : tS C (setK fr (.nm i) f) D σ H) : tD C f σ H fun x H1 => gName i x σ H1 D.nx :=
  tD_mono (rd_set h) fun v H1 h1 => tG_nm h1
end
section
variable {C : Ctx} {elt tg iter tg1 iter1 : Expr} {ifs : List Expr} {scope : Scope} {own : List (Str × Nat)} {pos spos py : Pos} {fi fi2 : Env → M (List D)} {t t2 : T} {fc : Env → M Bool} {fe : Env → M D} {i : Nat} {y : Str} {fr : Bool}
theorem ok_setLc (hc : C.X.calm = true) (hN : C.X.N.Nodup) (hy : C.X.N[i]? = some y) (hyl : C.X.env.scope.names.lookup y = some .local) (hk : C.X.env.scope.kind = .function) (hl : (py.line == pos.line) = true)
    (ha : (scope.names.any fun (n, k) => n == y && (k == .local || k == .cell)) = false) (hi : OkI C tg iter fi) (ok : BlkOk C.X.N C.X.env.scope scope own) (ho : own.map (·.2) = t.ix)
    (hg : ∀ s H a cl fp, OkG (C.blk s H scope (compEnvC scope cl a C.X.env) fp) tg t) (ht : ∀ s H a cl fp, OkTs (C.blk s H scope (compEnvC scope cl a C.X.env) fp) ifs fc)
    (he : ∀ s H a cl fp, OkE (C.blk s H scope (compEnvC scope cl a C.X.env) fp) elt fe) (hs : notSetI iter = true) : OkS C (.Assign [.Name y py] (.ListComp elt [⟨tg, iter, ifs, 0⟩] scope pos) spos) (setK fr (.nm i) (lcK fi t fc fe)) :=
  PS_imp (ps_setLc hc hN hy hyl (sw_true hk hyl hl ha) hi ok (fun s H a cl fp => blkG (hg s H a cl fp)) (fun s H a cl fp => blkTs (ht s H a cl fp)) (fun s H a cl fp => blkE (he s H a cl fp)) (notSetI_ok hs _)) fun D σ H q => by
    rw [ho]; exact rd_lc (rd_setN q)
theorem ok_setLc2 (hc : C.X.calm = true) (hN : C.X.N.Nodup) (hy : C.X.N[i]? = some y) (hyl : C.X.env.scope.names.lookup y = some .local) (hk : C.X.env.scope.kind = .function) (hl : (py.line == pos.line) = true)
    (ha : (scope.names.any fun (n, k) => n == y && (k == .local || k == .cell)) = false) (hi : OkI C tg iter fi) (ok : BlkOk C.X.N C.X.env.scope scope own) (ho : own.map (·.2) = t.ix ++ t2.ix)
    (hg : ∀ s H a cl fp, OkG (C.blk s H scope (compEnvC scope cl a C.X.env) fp) tg t) (hi1 : ∀ s H a cl fp, OkI (C.blk s H scope (compEnvC scope cl a C.X.env) fp) tg1 iter1 fi2)
    (hg1 : ∀ s H a cl fp, OkG (C.blk s H scope (compEnvC scope cl a C.X.env) fp) tg1 t2) (ht : ∀ s H a cl fp, OkTs (C.blk s H scope (compEnvC scope cl a C.X.env) fp) ifs fc)
    (he : ∀ s H a cl fp, OkE (C.blk s H scope (compEnvC scope cl a C.X.env) fp) elt fe) (hs : notSetI iter = true) (hs1 : notSetI iter1 = true) :
    OkS C (.Assign [.Name y py] (.ListComp elt [⟨tg, iter, [], 0⟩, ⟨tg1, iter1, ifs, 0⟩] scope pos) spos) (setK fr (.nm i) (lc2K fi t fi2 t2 fc fe)) :=
  PS_imp (ps_setLc2 (vs1 := t2.ix) hc hN hy hyl (sw_true hk hyl hl ha) hi ok (fun i h => by rw [ho]; exact List.mem_append_right _ h) (fun s H a cl fp => blkG (hg s H a cl fp)) (fun s H a cl fp => blkTs ok_tsnil) (fun s H a cl fp => blkI (hi1 s H a cl fp)) (fun s H a cl fp => blkG (hg1 s H a cl fp)) (fun s H a cl fp => blkTs (ht s H a cl fp)) (fun s H a cl fp => blkE (he s H a cl fp)) (notSetI_ok hs _) (fun env => notSetI_ok hs1 env)) fun D σ H q => by
    rw [ho]; exact rd_lc2 (rd_setN q)
end
/-! name op= e -/
section
variable {C : Ctx} {e a b : Expr} {f g : Env → M D} {pos pos' : Pos} {i : Nat} {x : Str}
theorem augD_ok {op : Bop} {x y : D} {μ : Sto} {σ : L2.St} {F : D → Sto → Prop} (h : ResG C σ (augD op x y μ) F) : ∃ i j, x = .int i ∧ y = .int j ∧ ((op = .add ∧ F (.int (i + j)) μ) ∨ (op = .sub ∧ F (.int (i - j)) μ)) := by
  cases op with
  | add =>
    cases x with
    | int i =>
      cases y with
      | int j => exact ⟨i, j, rfl, rfl, .inl ⟨rfl, h⟩⟩
      | _ => exact h.elim
    | _ => exact h.elim
  | sub =>
    cases x with
    | int i =>
      cases y with
      | int j => exact ⟨i, j, rfl, rfl, .inr ⟨rfl, h⟩⟩
      | _ => exact h.elim
    | _ => exact h.elim
  | _ => exact h.elim
def augK (i : Nat) (op : Bop) (f : Env → M D) : Env → M Fl := fun ρ => match ρ[i]? with
    | some (some x) => M.bind (f ρ) fun y => M.bind (augD op x y) fun z => M.ret (.nx (ρ.set i (some z)))
    | _ => M.bad
def augOp : Bop → Operator
  | .sub => .Sub
  | _ => .Add
def augI : Bop → Int → Int → Int
  | .sub, i, j => i - j
  | _, i, j => i + j
theorem ip_aug {X : Cx} (op : Bop) : PIp X (augOp op) (ipI (augI op)) := by
  cases op <;> first | exact ip_add | exact ip_sub
theorem rd_aug {op : Bop} {D : Ends} {σ : L2.St} {H : Hp} (q : tS C (augK i op f) D σ H) : tAug i (tD C f) (ipI (augI op)) D σ H := by
  obtain ⟨s, ρ, own, μ, e1, p, q⟩ := q
  unfold augK at q
  cases h : ρ[i]? with
  | none => simp only [h] at q; exact q.elim
  | some od =>
    cases od with
    | none => simp only [h] at q; exact q.elim
    | some d =>
      simp only [h] at q
      obtain ⟨v, hv, r⟩ := p.r.at_ i d h
      have hl : i < ρ.length := (List.getElem?_eq_some_iff.mp h).1
      refine ⟨v, hv, s, ρ, own, μ, e1, p, q.bind.mono fun y μ1 h1 vy s1 o po => ?_⟩
      obtain ⟨a, b, ex, ey, hF⟩ := augD_ok h1.bind
      subst ex ey
      have key : ∀ z : Int, FlP C D s (.nx (ρ.set i (some (.int z)))) μ1 → D.nx (σ.set i (some (.int z))) s1.H := fun z hz =>
        hz _ _ s1 ((p.step po.ev po.wd).set hl (d := .int z) (v := .int z) (o := []) ⟨rfl, rfl⟩ Frs.nil) (po.ev.go p.wd)
      refine ⟨a, b, r.1, po.rep.1, ?_⟩
      rcases hF with ⟨rfl, hF⟩ | ⟨rfl, hF⟩
      · exact key _ hF.ret
      · exact key _ hF.ret
theorem ok_aug {op : Bop} (hN : C.X.N.Nodup) (hi : C.X.N[i]? = some x) (hx : Loc C.X.env.scope x) (hf : C.X.fn x = true ∨ C.X.env.scope.names.lookup x = some .local) (h : OkE C e f) : OkS C (.AugAssign (.Name x pos') (augOp op) e pos) (augK i op f) :=
  PS_imp (ps_aug hN hi hx h (ip_aug op) hf) fun D σ H q => rd_aug q
end
/-! while, for -/
section
variable {C : Ctx} {c tg iter : Expr} {body : List Stmt} {pos : Pos} {t : Env → M Bool} {fb : Env → M Fl} {fi : Env → M (List D)} {tt : T}
theorem ok_while (hW : WI C) (hp : PassesOwn (model C.X.prog C.X.w) C.X.A C.X.env C.X.xe) (hc : OkT C c t) (hb : OkSs C body fb) : OkS C (.While c body [] pos) (fun ρ => whl t fb WF ρ) :=
  PS_imp (ps_while hp hc hb) fun D σ H ⟨s, ρ, own, μ, e1, p, q⟩ => by
    refine ⟨fun n σ1 H1 => ∃ s1 ρ1 own1 μ1, s1.H = H1 ∧ Pre C s1 ρ1 σ1 own1 μ1 ∧ Go s s1 ∧ ResG C σ1 (whl t fb n ρ1 μ1) (FlP C D s), ⟨WF, s, ρ, own, μ, e1, p, Go.refl p.wd, q⟩, ?_⟩
    rintro n σ1 H1 ⟨s1, ρ1, own1, μ1, rfl, p1, g1, q1⟩
    cases n with
    | zero => exact q1.elim
    | succ n =>
      have q1 : ResG C σ1 (M.bind (t ρ1) (fun
        | false => M.ret (.nx ρ1)
        | true => M.bind (fb ρ1) fun
          | .nx ρ' => whl t fb n ρ'
          | .cont ρ' => whl t fb n ρ'
          | .brk ρ' => M.ret (.nx ρ')
          | .rt d => M.ret (.rt d)) μ1) (FlP C D s) := q1
      refine ⟨s1, ρ1, own1, μ1, rfl, p1, q1.bind.mono fun b μ2 h2 s2 ev wd => ?_⟩
      have p2 := p1.step ev wd
      have g2 := g1.trans (ev.go p1.wd)
      cases b with
      | false =>
        dsimp only
        rw [if_neg Bool.false_ne_true]
        exact ResG.ret (C := C) (σ := σ1) h2 σ1 own1 s2 p2 g2
      | true =>
        dsimp only
        rw [if_pos rfl]
        refine ⟨fun σ3 H3 => ∃ s3 ρ3 own3 μ3, s3.H = H3 ∧ Pre C s3 ρ3 σ3 own3 μ3 ∧ Go s s3 ∧ ResG C σ3 (whl t fb n ρ3 μ3) (FlP C D s), fun σ3 H3 h => ⟨n, Nat.lt_succ_self n, h⟩, s2, ρ1, own1, μ2, rfl, p2, (show ResG C σ1 (M.bind (fb ρ1) _ μ2) _ from h2).bind.mono fun fl μ3 h3 => ?_⟩
        cases fl with
        | nx ρ' => exact fun σ3 own3 s3 p3 g3 => ⟨s3, ρ', own3, μ3, rfl, p3, g2.trans g3, ResG.sig hW h3⟩
        | cont ρ' => exact fun σ3 own3 s3 p3 g3 => ⟨s3, ρ', own3, μ3, rfl, p3, g2.trans g3, ResG.sig hW h3⟩
        | brk ρ' => exact fun σ3 own3 s3 p3 g3 => h3.ret σ3 own3 s3 p3 (g2.trans g3)
        | rt d => exact h3.ret
def forK (fi : Env → M (List D)) (tt : T) (fb : Env → M Fl) : Env → M Fl := fun ρ => M.bind (fi ρ) fun xs => forL (fun x ρ => match asg tt x ρ with
      | some ρ' => fb ρ'
      | none => M.bad) xs ρ
theorem ok_for (hW : WI C) (hp : PassesOwn (model C.X.prog C.X.w) C.X.A C.X.env C.X.xe) (hc : C.X.calm = true) (hi : OkI C tg iter fi) (hg : OkG C tg tt) (hb : OkSs C body fb) (hs : notSetI iter = true) : OkS C (.For tg iter body [] pos) (forK fi tt fb) :=
  PS_imp (ps_for hp hc hi hg hb (notSetI_ok hs _)) fun D σ H ⟨s, ρ, own, μ, e1, p, q⟩ => by
    refine ⟨s, ρ, own, μ, e1, p, q.bind.mono fun xs μ1 h1 J s1 ev wd wk => ?_⟩
    have p1 := p.step ev wd
    obtain ⟨G, Y, wlk, hG, hY⟩ := wk
    refine for_it wlk (fun i σi Hi => ∃ si ρi owni μi, si.H = Hi ∧ Pre C si ρi σi owni μi ∧ Go s1 si ∧ ResG C σi (forL (fun x ρ => match asg tt x ρ with
      | some ρ' => fb ρ'
      | none => M.bad) (xs.drop i) ρi μi) (FlP C D s)) ⟨s1, ρ, own, μ1, rfl, p1, Go.refl wd, by simpa using h1⟩ (fun i σi Hi _ ⟨si, ρi, owni, μi, e, pi, g, _⟩ => e ▸ hG si g) (fun i x σi Hi H' hi ⟨si, ρi, owni, μi, e, pi, g, qi⟩ y => ?_) (fun σi Hi ⟨si, ρi, owni, μi, e, pi, g, qi⟩ => ?_)
    · subst e
      obtain ⟨s3, d, eH', ev3, wd3, hxi, r⟩ := hY i si μi x H' hi g pi.wd y
      have edrop : xs.drop i = d :: xs.drop (i + 1) := by
        have e2 : xs[i] = d := by rw [List.getElem?_eq_getElem hi] at hxi; exact Option.some.inj hxi
        rw [List.drop_eq_getElem_cons hi, e2]
      rw [edrop] at qi
      have qi := (show ResG C σi (M.bind (match asg tt d ρi with
        | some ρ' => fb ρ'
        | none => M.bad) _ μi) _ from qi).bind
      cases ea : asg tt d ρi with
      | none => simp only [ea] at qi; exact qi.elim
      | some ρ' =>
        simp only [ea] at qi
        have p3 := pi.step ev3 wd3
        refine ⟨s3, ρi, owni, μi, d, [], ρ', eH', p3, r, Frs.nil, ea, fun σ4 own4 p4 _ _ => ⟨s3, ρ', own4, μi, rfl, p4, (ResG.sig hW qi).mono fun fl μ5 h5 => ?_⟩⟩
        have g3 := g.trans (ev3.go pi.wd)
        cases fl with
        | nx ρ5 => exact fun σ5 own5 s5 p5 g5 => ⟨s5, ρ5, own5, μ5, rfl, p5, g3.trans g5, ResG.sig hW h5⟩
        | cont ρ5 => exact fun σ5 own5 s5 p5 g5 => ⟨s5, ρ5, own5, μ5, rfl, p5, g3.trans g5, ResG.sig hW h5⟩
        | brk ρ5 => exact fun σ5 own5 s5 p5 g5 => h5.ret σ5 own5 s5 p5 ((ev.go p.wd).trans (g3.trans g5))
        | rt d => exact h5.ret
    · subst e
      have en : xs.drop xs.length = [] := by simp
      rw [en] at qi
      exact qi.ret σi owni si pi ((ev.go p.wd).trans g)
end
end Vf

/-! V11 -/
set_option autoImplicit false
set_option linter.all false
set_option Elab.async false
set_option maxHeartbeats 1000000
/-! V11: what is written. -/
namespace Vf
open PySem PySem.Spec PyProof.Rows L2

section
variable {C : Ctx} {s s' : Sx} {ρ : Env} {σ : L2.St} {own : Nat → List Addr} {μ μ' : Sto} {d d' : D} {v : V} {o o2 : List Addr} {i : Nat} {a : Addr} {u : HO}
theorem Pre.fresh0 (p : Pre C s ρ σ own μ) (h : a ∈ own i) : C.s0.H a = none := by
  rcases p.ev.dn a (p.r.ow i a h).1 with z | z
  · exact absurd z (p.fr i a h)
  · exact z
theorem RepX.fz {K : PySem.W.Frag} {w : World} {xh : Option XH} (k : Kp s (s.less o)) (h : RepX K w xh s d v o) : RepX K w xh (s.less o) d.fz v [] := by
  cases d with
  | exn c fs =>
    obtain ⟨h, a, b, c', d, e, f⟩ := h
    exact ⟨h, a, b, rfl, d, e, f.keep k⟩
  | _ => exact RepX.of (Rep.fz _ _ _ h fun a ha => ha)
/-- a slot's own object is written -/
theorem Pre.upd (p : Pre C s ρ σ own μ) (ha : a ∈ own i) (mu : Mut (some u)) (hi : i < ρ.length) (hv : σ[i]? = some (some v)) (r : Rep C.K C.w (s.put a u) d' v o2) (nd : o2.Nodup)
    (ow : ∀ b ∈ o2, s.O b ∧ b ∉ s.ι ∧ ¬ C.s0.O b) (ap : ∀ j, j ≠ i → ∀ b, b ∈ own j → b ∉ o2) : Pre C (s.put a u) (ρ.set i (some d')) σ (fun j => if j = i then o2 else own j) μ ∧ Go s (s.put a u) := by
  have oa := p.r.ow i a ha
  have h0 := p.fresh0 ha
  have keep : ∀ b, b ≠ a → (s.put a u).H b = s.H b := fun b e => upd_ne e
  refine ⟨⟨⟨fun j e h => ?_, fun j b h => ?_, fun j => ?_, fun j k b hjk h h' => ?_, by rw [List.length_set]; exact p.r.len⟩, p.wd.put oa.1 oa.2 mu, ?_, fun j b h => ?_⟩, Go.put p.wd oa.1⟩
  · rcases set_get h with ⟨rfl, rfl, hl⟩ | ⟨hn, h⟩
    · exact ⟨v, hv, by simp only [if_true]; exact RepX.of r⟩
    · obtain ⟨w, h1, h2⟩ := p.r.at_ j e h
      refine ⟨w, h1, ?_⟩
      simp only [if_neg hn]
      exact RepX.keep (Kp.put p.wd oa.1) h2 fun b hb => keep b fun e => p.r.ap j i b hn hb (by rw [e]; exact ha)
  · by_cases e : j = i
    · simp only [if_pos e] at h; exact ⟨(ow b h).1, (ow b h).2.1⟩
    · simp only [if_neg e] at h; exact p.r.ow j b h
  · by_cases e : j = i
    · simp only [if_pos e]; exact nd
    · simp only [if_neg e]; exact p.r.nd j
  · by_cases e : j = i
    · have e' : k ≠ i := fun z => hjk (e.trans z.symm)
      simp only [if_pos e] at h
      simp only [if_neg e'] at h'
      exact ap k e' b h' h
    · simp only [if_neg e] at h
      by_cases e' : k = i
      · simp only [if_pos e'] at h'; exact ap j e b h h'
      · simp only [if_neg e'] at h'; exact p.r.ap j k b hjk h h'
  · exact ⟨fun b x h n => (keep b fun e => by rw [e, h0] at h; cases h).trans (p.ev.ext b x h n), p.ev.pre, p.ev.up, p.ev.dn, fun b h => by
      by_cases e : b = a
      · rw [e]; exact h0
      · rw [keep b e] at h; exact p.ev.live b h⟩
  · by_cases e : j = i
    · simp only [if_pos e] at h; exact (ow b h).2.2
    · simp only [if_neg e] at h; exact p.fr j b h
/-- a slot is frozen -/
theorem Pre.frz (p : Pre C s ρ σ own μ) (hd : ρ[i]? = some (some d)) : Pre C (s.less (own i)) (ρ.set i (some d.fz)) σ (fun j => if j = i then [] else own j) μ ∧ Go s (s.less (own i)) := by
  have g : Go s (s.less (own i)) := Go.less p.wd
  refine ⟨⟨⟨fun j e h => ?_, fun j b h => ?_, fun j => ?_, fun j k b hjk h h' => ?_, by rw [List.length_set]; exact p.r.len⟩, p.wd.less fun b hb => (p.r.ow i b hb).2, p.ev.less fun b hb => p.fr i b hb, fun j b h => ?_⟩, g⟩
  · rcases set_get h with ⟨rfl, rfl, hl⟩ | ⟨hn, h⟩
    · obtain ⟨w, h1, h2⟩ := p.r.at_ _ _ hd
      exact ⟨w, h1, by simp only [if_true]; exact RepX.fz g.kp h2⟩
    · obtain ⟨w, h1, h2⟩ := p.r.at_ j e h
      refine ⟨w, h1, ?_⟩
      simp only [if_neg hn]
      exact RepX.keep g.kp h2 fun b hb => rfl
  · by_cases e : j = i
    · simp only [if_pos e] at h; cases h
    · simp only [if_neg e] at h
      exact ⟨⟨(p.r.ow j b h).1, p.r.ap j i b e h⟩, (p.r.ow j b h).2⟩
  · by_cases e : j = i
    · simp only [if_pos e]; exact List.nodup_nil
    · simp only [if_neg e]; exact p.r.nd j
  · by_cases e : j = i
    · simp only [if_pos e] at h; cases h
    · simp only [if_neg e] at h
      by_cases e' : k = i
      · simp only [if_pos e'] at h'; cases h'
      · simp only [if_neg e'] at h'; exact p.r.ap j k b hjk h h'
  · by_cases e : j = i
    · simp only [if_pos e] at h; cases h
    · simp only [if_neg e] at h; exact p.fr j b h
theorem RepL.set {K : PySem.W.Frag} {w : World} {s : Sx} {d : D} {v : V} (r1 : Rep K w s d v []) : ∀ {ds : List D} {vs : List V} (j : Nat), RepL K w s ds vs [] → RepL K w s (ds.set j d) (vs.set j v) []
  | [], vs, j, h => by
    obtain ⟨rfl, _⟩ := h
    exact ⟨rfl, rfl⟩
  | x :: ds, vs, 0, h => by
    obtain ⟨y, vs', e, r2, r3⟩ := h.cons_of
    subst e
    exact RepL.cons r1 r3
  | x :: ds, vs, j + 1, h => by
    obtain ⟨y, vs', e, r2, r3⟩ := h.cons_of
    subst e
    exact RepL.cons r2 (RepL.set r1 j r3)
/-- a shared object is written -/
theorem Pre.refSet (p : Pre C s ρ σ own μ) {n j : Nat} {ds : List D} {vs : List V} (hn : s.ι[n]? = some a) (hm : μ[n]? = some ds) (hH : s.H a = some (.lst vs)) (r : RepL C.K C.w s ds vs []) (rd : Rep C.K C.w s d v []) :
    Pre C (s.put a (.lst (vs.set j v))) ρ σ own (μ.set n (ds.set j d)) ∧ Go s (s.put a (.lst (vs.set j v))) := by
  have ha : a ∈ s.ι := (List.getElem?_eq_some_iff.mp hn).2 ▸ List.getElem_mem _
  have oa := p.wd.sub a ha
  have keep : ∀ b, b ≠ a → (s.put a (.lst (vs.set j v))).H b = s.H b := fun b e => upd_ne e
  have kp := Kp.put (u := .lst (vs.set j v)) p.wd oa
  refine ⟨⟨⟨fun k e h => ?_, p.r.ow, p.r.nd, p.r.ap, p.r.len⟩, ⟨fun b h => ?_, p.wd.sub, p.wd.nd, by rw [List.length_set]; exact p.wd.len, fun m b es h1 h2 => ?_⟩, ?_, p.fr⟩, Go.put p.wd oa⟩
  · obtain ⟨w, h1, h2⟩ := p.r.at_ k e h
    exact ⟨w, h1, RepX.keep kp h2 fun b hb => keep b fun e => (p.r.ow k b hb).2 (by rw [e]; exact ha)⟩
  · by_cases e : b = a
    · rw [e]; show Mut (L2.upd s.H a _ a); rw [upd_same]; exact trivial
    · rw [keep b e]; exact p.wd.mt b h
  · by_cases e : m = n
    · subst e
      have e1 : b = a := by
        have h1 : s.ι[m]? = some b := h1
        rw [hn] at h1; exact (Option.some.inj h1).symm
      have hl : m < μ.length := (List.getElem?_eq_some_iff.mp hm).1
      rw [List.getElem?_set_self hl] at h2
      cases h2
      rw [e1]
      exact ⟨_, upd_same, RepL.set (Rep.keep kp _ _ _ rd fun _ z => nomatch z) j (RepL.keep kp _ _ _ r fun _ z => nomatch z)⟩
    · rw [List.getElem?_set_ne (Ne.symm e)] at h2
      obtain ⟨us, h3, h4⟩ := p.wd.at_ m b es h1 h2
      have e1 : b ≠ a := fun z => e ((List.getElem?_inj (List.getElem?_eq_some_iff.mp (show s.ι[m]? = some b from h1)).1 p.wd.nd).mp (by rw [show s.ι[m]? = some b from h1, hn, z]))
      exact ⟨us, (keep b e1).trans h3, RepL.keep kp _ _ _ h4 fun _ z => nomatch z⟩
  · refine ⟨fun b x h n => (keep b fun e => ?_).trans (p.ev.ext b x h n), p.ev.pre, p.ev.up, p.ev.dn, fun b h => ?_⟩
    · obtain ⟨t, e1, e2⟩ := p.ev.pre
      rw [e] at n h
      rw [e1] at ha
      rcases List.mem_append.mp ha with z | z
      · exact n z
      · rw [e2 a z] at h; cases h
    · by_cases e : b = a
      · rw [e] at h
        have h : L2.upd s.H a (.lst (vs.set j v)) a = none := h
        rw [upd_same] at h; cases h
      · rw [keep b e] at h; exact p.ev.live b h
end
theorem notComp_sole {e : Expr} (h : notComp e = true) (t : Expr) (l : Nat) (env : PySem.Env) : swapsWithSole [t] e l env = pure false := notComp_sw h (some t) l env
/-! ### append -/
section
variable {C : Ctx} {e a b : Expr} {f g : Env → M D} {pos pos' pos'' apos : Pos} {i : Nat} {x : Str}
def noCall : Expr → Bool
  | .Call .. => false
  | _ => true
theorem noCall_ok {o : Expr} (h : noCall o = true) (m : Str) (env : PySem.Env) (w : Sem Value) : attributeBase o m env w = w := by
  cases o <;> first | rfl | cases h
theorem few1 {e : Expr} (h : notStar e = true) (pos : Pos) (env : PySem.Env) : ((backTo pos (starEach [e] env)).all (fun x => !x.1) && (backToKw pos (keywordEach [] env)).all (fun x => x.1.isSome)
      && decide (([e] : List Expr).length + ([] : List Keyword).length + (if ([] : List Keyword).isEmpty then 0 else 1) < 30)) = true := by
  rw [notStar_ok h]; rfl
def appK (i : Nat) (f : Env → M D) : Env → M Fl := fun ρ => match ρ[i]? with
    | some (some (.lst true ds)) => M.bind (f ρ) fun d => guard' (decide (ds.length < LINE)) (M.ret (.nx (ρ.set i (some (.lst true (ds ++ [d]))))))
    | _ => M.bad
theorem app_cases {o : Option (Option D)} {α : Type} {k : List D → M α} {σ : L2.St} {μ : Sto} {F : α → Sto → Prop} (h : ResG C σ ((match o with
    | some (some (.lst true ds)) => k ds
    | _ => M.bad : M α) μ) F) : ∃ ds, o = some (some (.lst true ds)) ∧ ResG C σ (k ds μ) F := by
  match o, h with
  | some (some (.lst true ds)), h => exact ⟨ds, rfl, h⟩
  | some (some (.lst false ds)), h => exact h.elim
  | some (some .non), h => exact h.elim
  | some (some (.bl _)), h => exact h.elim
  | some (some (.int _)), h => exact h.elim
  | some (some (.str _)), h => exact h.elim
  | some (some (.tup _)), h => exact h.elim
  | some (some (.dct _ _ _)), h => exact h.elim
  | some (some (.ref _)), h => exact h.elim
  | some (some (.exn _ _)), h => exact h.elim
  | some none, h => exact h.elim
  | none, h => exact h.elim
theorem ok_app (hN : C.X.N[i]? = some x) (hv : Vis C.X.env.scope x) (hd : (x == ("__debug__" : Str)) = false) (hc : (x == ("__classdict__" : Str)) = false) (h : OkE C e f) (hs : notStar e = true) (hl : (apos.endLine == pos.line) = true) :
    OkS C (.Expr (.Call (.Attribute (.Name x pos'') "append" apos) [e] [] pos) pos') (appK i f) :=
  PS_imp (ps_expr (pe_bm PySem.F.plainAttrs_list PySem.F.slot_list_append PySem.F.type_list_append mt_append (pe_var hN hv hd hc) (pa_cons h pa_nil (notStar_ok hs [] _)) rfl (few1 hs _ _) hl (notStar_ok hs [] _) rfl)) fun D σ H ⟨s, ρ, own, μ, e1, p, q⟩ => by
    obtain ⟨ds, hρ, q⟩ := app_cases q
    obtain ⟨v, hv, r⟩ := p.r.at_ i _ hρ
    obtain ⟨l, vs, o', ev, hH, eo, rr⟩ := r
    subst e1
    refine ⟨v, hv, by rw [ev]; exact .inl ⟨rfl, vs, .of hH⟩, s, ρ, own, μ, rfl, p, q.bind.mono fun d μ1 h1 y s1 o po => ?_⟩
    obtain ⟨gl, h1⟩ := ResG.guard h1
    have p1 := p.step po.ev po.wd
    have hl1 : l ∈ own i := by rw [eo]; exact List.mem_cons_self
    have hH1 := po.ev.ext l _ hH (p.r.ow i l hl1).2
    refine ⟨l, vs, y, ev, rfl, hH1, by rw [← line_eq, ← rr.len]; exact of_decide_eq_true gl, ?_⟩
    have rr1 := po.ev.repLo p.wd rr fun b hb => p.r.ow i b (by rw [eo]; exact List.mem_cons_of_mem _ hb)
    have kp := Kp.put (u := .lst (vs ++ [y])) p1.wd (p1.r.ow i l hl1).1
    have nd := p.r.nd i
    rw [eo] at nd
    have nd2 := List.nodup_cons.mp nd
    have ho : ∀ b ∈ o, b ∉ own i := fun b hb z => (po.ow b hb).2.1 (p.r.ow i b z).1
    have hlo : l ∉ o := fun z => ho l z hl1
    have keep : ∀ b, b ≠ l → (s1.put l (.lst (vs ++ [y]))).H b = s1.H b := fun b e => upd_ne e
    obtain ⟨pf, g⟩ := p1.upd (i := i) (a := l) (u := .lst (vs ++ [y])) (d' := .lst true (ds ++ [d])) (v := v) (o2 := l :: (o' ++ o)) hl1 trivial (List.getElem?_eq_some_iff.mp hρ).1 hv
      ⟨l, vs ++ [y], o' ++ o, ev, upd_same, rfl, RepL.append (RepL.keep kp _ _ _ rr1 fun b hb => keep b fun e => nd2.1 (by rw [← e]; exact hb)) ⟨y, [], o, [], rfl, by simp, Rep.keep kp _ _ _ po.rep fun b hb => keep b fun e => hlo (by rw [← e]; exact hb), rfl, rfl⟩⟩
      (List.nodup_cons.mpr ⟨fun z => (List.mem_append.mp z).elim nd2.1 hlo, List.nodup_append.mpr ⟨nd2.2, po.nd, fun b hb c hc e => ho c hc (by rw [eo, ← e]; exact List.mem_cons_of_mem _ hb)⟩⟩)
      (fun b hb => by
        rcases List.mem_cons.mp hb with e | hb
        · rw [e]; exact ⟨(p1.r.ow i l hl1).1, (p1.r.ow i l hl1).2, p.fr i l hl1⟩
        · rcases List.mem_append.mp hb with hb | hb
          · have : b ∈ own i := by rw [eo]; exact List.mem_cons_of_mem _ hb
            exact ⟨(p1.r.ow i b this).1, (p1.r.ow i b this).2, p.fr i b this⟩
          · exact ⟨(po.ow b hb).1, (po.ow b hb).2.2, fun z => (po.ow b hb).2.1 (p.ev.up b z)⟩)
      (fun j hj b hb z => by
        rcases List.mem_cons.mp z with e | z
        · exact p.r.ap j i b hj hb (by rw [e]; exact hl1)
        · rcases List.mem_append.mp z with z | z
          · exact p.r.ap j i b hj hb (by rw [eo]; exact List.mem_cons_of_mem _ z)
          · exact (po.ow b z).2.1 (p.r.ow j b hb).1)
    exact h1.ret σ _ _ pf ((po.ev.go p.wd).trans g)
end
/-! append to a list within one's own list -/
theorem RepL.appAt {K : PySem.W.Frag} {w : World} {s : Sx} {μ : Sto} (W : Wd K w s μ) {d : D} {y : V} {od : List Addr} (rd : Rep K w s d y od) {es : List D} : ∀ {ds : List D} {vs : List V} {o : List Addr} {j : Nat}, RepL K w s ds vs o → ds[j]? = some (.lst true es) → o.Nodup →
    (∀ b ∈ o, s.O b) → (∀ b ∈ o, b ∉ od) → ∃ b esV, vs[j]? = some (.ref b) ∧ s.H b = some (.lst esV) ∧ b ∈ o ∧ es.length = esV.length ∧ ∃ o2, RepL K w (s.put b (.lst (esV ++ [y]))) (ds.set j (.lst true (es ++ [d]))) vs o2 ∧ o2.Perm (o ++ od)
  | [], _, _, _, _, e, _, _, _ => by simp at e
  | x :: ds, vs, o, 0, r, e, nd, ow, ap => by
    obtain ⟨v, vs', o1, o2, ev, eo, r1, r2⟩ := r
    simp at e
    subst e ev eo
    obtain ⟨b, esV, ob, ev, hH, eo, rr⟩ := r1
    subst eo
    have nd' := List.nodup_append.mp nd
    have nd1 := List.nodup_cons.mp nd'.1
    have hb : b ∈ (b :: ob) ++ o2 := List.mem_append_left _ List.mem_cons_self
    have kp := Kp.put (u := .lst (esV ++ [y])) W (ow b hb)
    have keep : ∀ c, c ≠ b → (s.put b (.lst (esV ++ [y]))).H c = s.H c := fun c e => upd_ne e
    refine ⟨b, esV, by simp [ev], hH, hb, rr.len, (b :: (ob ++ od)) ++ o2, ⟨v, vs', _, o2, rfl, rfl, ⟨b, esV ++ [y], ob ++ od, ev, upd_same, rfl, ?_⟩, ?_⟩, ?_⟩
    · exact RepL.append (RepL.keep kp _ _ _ rr fun c hc => keep c fun e => nd1.1 (by rw [← e]; exact hc)) ⟨y, [], od, [], rfl, by simp, Rep.keep kp _ _ _ rd fun c hc => keep c fun e => ap b hb (by rw [← e]; exact hc), rfl, rfl⟩
    · exact RepL.keep kp _ _ _ r2 fun c hc => keep c fun e => nd'.2.2 b List.mem_cons_self c hc e.symm
    · show (b :: ((ob ++ od) ++ o2)).Perm (b :: ((ob ++ o2) ++ od))
      refine List.Perm.cons b ?_
      rw [List.append_assoc, List.append_assoc]
      exact List.Perm.append_left ob List.perm_append_comm
  | x :: ds, vs, o, j + 1, r, e, nd, ow, ap => by
    obtain ⟨v, vs', o1, o2, ev, eo, r1, r2⟩ := r
    subst ev eo
    have nd' := List.nodup_append.mp nd
    obtain ⟨b, esV, h1, h2, h3, h4, o3, h5, h6⟩ := RepL.appAt W rd (j := j) r2 (by simpa using e) nd'.2.1 (fun b hb => ow b (List.mem_append_right _ hb)) fun b hb => ap b (List.mem_append_right _ hb)
    have kp := Kp.put (u := .lst (esV ++ [y])) W (ow b (List.mem_append_right _ h3))
    have keep : ∀ c, c ≠ b → (s.put b (.lst (esV ++ [y]))).H c = s.H c := fun c e => upd_ne e
    refine ⟨b, esV, by simpa using h1, h2, List.mem_append_right _ h3, h4, o1 ++ o3, ⟨v, vs', o1, o3, rfl, rfl, Rep.keep kp _ _ _ r1 fun c hc => keep c fun e => nd'.2.2 c hc b h3 e, h5⟩, ?_⟩
    rw [List.append_assoc]
    exact List.Perm.append_left o1 h6
section
variable {C : Ctx} {e a b : Expr} {f g : Env → M D} {pos pos' pos'' apos spos : Pos} {i : Nat} {x : Str}
def appAtK (i : Nat) (g f : Env → M D) : Env → M Fl := fun ρ => match ρ[i]? with
    | some (some (.lst true ds)) => M.bind (g ρ) fun k => match ixD ds.length k with
      | some j => match ds[j]? with
        | some (.lst true es) => M.bind (f ρ) fun d => guard' (decide (es.length < LINE)) (M.ret (.nx (ρ.set i (some (.lst true (ds.set j (.lst true (es ++ [d]))))))))
        | _ => M.bad
      | none => M.bad
    | _ => M.bad
theorem lst_cases {o : Option D} {α : Type} {k : List D → M α} {σ : L2.St} {μ : Sto} {F : α → Sto → Prop} (h : ResG C σ ((match o with
    | some (.lst true ds) => k ds
    | _ => M.bad : M α) μ) F) : ∃ ds, o = some (.lst true ds) ∧ ResG C σ (k ds μ) F := by
  match o, h with
  | some (.lst true ds), h => exact ⟨ds, rfl, h⟩
  | some (.lst false ds), h => exact h.elim
  | some .non, h => exact h.elim
  | some (.bl _), h => exact h.elim
  | some (.int _), h => exact h.elim
  | some (.str _), h => exact h.elim
  | some (.tup _), h => exact h.elim
  | some (.dct _ _ _), h => exact h.elim
  | some (.ref _), h => exact h.elim
  | some (.exn _ _), h => exact h.elim
  | none, h => exact h.elim
theorem ixD_some {n : Nat} {k : D} {j : Nat} (h : ixD n k = some j) : ∃ m : Int, k = .int m ∧ ixN n m = some j := by
  cases k with
  | int m => exact ⟨m, rfl, h⟩
  | _ => cases h
theorem ok_appAt (hu : C.X.A.units + 64 < cLine) (hN : C.X.N[i]? = some x) (hv : Vis C.X.env.scope x) (hd : (x == ("__debug__" : Str)) = false) (hc : (x == ("__classdict__" : Str)) = false) (hk : OkE C b g) (hks : notSlice b = true) (h : OkE C e f) (hs : notStar e = true) (hl : (apos.endLine == pos.line) = true) :
    OkS C (.Expr (.Call (.Attribute (.Subscript (.Name x pos'') b spos) "append" apos) [e] [] pos) pos') (appAtK i g f) :=
  PS_imp (ps_expr (pe_bm PySem.F.plainAttrs_list PySem.F.slot_list_append PySem.F.type_list_append mt_append (pe_ix (ix_all hu) (pe_var hN hv hd hc) hk (notSlice_ok hks)) (pa_cons h pa_nil (notStar_ok hs [] _)) rfl (few1 hs _ _) hl (notStar_ok hs [] _) rfl)) fun Ds σ H ⟨s, ρ, own, μ, e1, p, q⟩ => by
    obtain ⟨ds, hρ, q⟩ := app_cases q
    obtain ⟨v, hv, r⟩ := p.r.at_ i _ hρ
    obtain ⟨l, vs, o', ev, hH, eo, rr⟩ := r
    subst e1
    refine ⟨v, hv, s, ρ, own, μ, rfl, p, q.bind.mono fun k μ1 h1 vk s1 ok pk => ?_⟩
    cases ej : ixD ds.length k with
    | none => simp only [ej] at h1; exact h1.elim
    | some j =>
      simp only [ej] at h1
      obtain ⟨m, ek, hj⟩ := ixD_some ej
      subst ek
      obtain ⟨es, hds, h1⟩ := lst_cases h1
      have hl1 : l ∈ own i := by rw [eo]; exact List.mem_cons_self
      have p1 := p.step pk.ev pk.wd
      have hH1 := pk.ev.ext l _ hH (p.r.ow i l hl1).2
      have rr1 := pk.ev.repLo p.wd rr fun b hb => p.r.ow i b (by rw [eo]; exact List.mem_cons_of_mem _ hb)
      have nd := p.r.nd i
      rw [eo] at nd
      have nd2 := List.nodup_cons.mp nd
      -- the item's own address
      have key0 : ∃ b0 esV, vs[j]? = some (.ref b0) ∧ s1.H b0 = some (.lst esV) := by
        obtain ⟨b0, esV, h2, h3, _⟩ := RepL.appAt p1.wd (d := .non) (y := .non) (od := []) ⟨rfl, rfl⟩ rr1 hds nd2.2 (fun b hb => (p1.r.ow i b (by rw [eo]; exact List.mem_cons_of_mem _ hb)).1) (fun _ _ z => nomatch z)
        exact ⟨b0, esV, h2, h3⟩
      obtain ⟨b0, esV0, hv0, hH0⟩ := key0
      have hat : L2.atI vs m = some (.ref b0) := by
        unfold L2.atI
        rw [← rr.len, hj]
        exact hv0
      refine .inl (.inl ⟨l, vs, m, .ref b0, ev, pk.rep.1, .of hH1, hat, .inl ⟨rfl, esV0, .of hH0⟩, s1, ρ, own, μ1, rfl, p1, h1.bind.mono fun d μ2 h2 y s2 o po => ?_⟩)
      obtain ⟨gl, h2⟩ := ResG.guard h2
      have p2 := p1.step po.ev po.wd
      have hH2 := po.ev.ext l _ hH1 (p1.r.ow i l hl1).2
      have rr2 := po.ev.repLo p1.wd rr1 fun b hb => p1.r.ow i b (by rw [eo]; exact List.mem_cons_of_mem _ hb)
      have ho : ∀ b ∈ o, b ∉ own i := fun b hb z => (po.ow b hb).2.1 (p1.r.ow i b z).1
      obtain ⟨b1, esV, g1, g2, g3, g4, o2, g5, g6⟩ := RepL.appAt p2.wd po.rep rr2 hds nd2.2 (fun b hb => (p2.r.ow i b (by rw [eo]; exact List.mem_cons_of_mem _ hb)).1) (fun b hb z => ho b z (by rw [eo]; exact List.mem_cons_of_mem _ hb))
      have eb : b1 = b0 := by rw [hv0] at g1; exact (V.ref.inj (Option.some.inj g1)).symm
      subst eb
      have hb1 : b1 ∈ own i := by rw [eo]; exact List.mem_cons_of_mem _ g3
      have hlb : l ≠ b1 := fun z => nd2.1 (by rw [z]; exact g3)
      have mem2 : ∀ b, b ∈ o2 → b ∈ o' ∨ b ∈ o := fun b hb => List.mem_append.mp (g6.mem_iff.mp hb)
      obtain ⟨pf, gg⟩ := p2.upd (i := i) (a := b1) (u := .lst (esV ++ [y])) (d' := .lst true (ds.set j (.lst true (es ++ [d])))) (v := v) (o2 := l :: o2) hb1 trivial (List.getElem?_eq_some_iff.mp hρ).1 hv
        ⟨l, vs, o2, ev, (show upd s2.H b1 _ l = _ by rw [upd_ne hlb]; exact hH2), rfl, g5⟩
        (List.nodup_cons.mpr ⟨fun z => (mem2 l z).elim nd2.1 fun z => ho l z hl1, g6.nodup_iff.mpr (List.nodup_append.mpr ⟨nd2.2, po.nd, fun b hb c hc e => ho c hc (by rw [eo, ← e]; exact List.mem_cons_of_mem _ hb)⟩)⟩)
        (fun b hb => by
          rcases List.mem_cons.mp hb with e | hb
          · rw [e]; exact ⟨(p2.r.ow i l hl1).1, (p2.r.ow i l hl1).2, p.fr i l hl1⟩
          · rcases mem2 b hb with hb | hb
            · have : b ∈ own i := by rw [eo]; exact List.mem_cons_of_mem _ hb
              exact ⟨(p2.r.ow i b this).1, (p2.r.ow i b this).2, p.fr i b this⟩
            · exact ⟨(po.ow b hb).1, (po.ow b hb).2.2, fun z => (po.ow b hb).2.1 (p1.ev.up b z)⟩)
        (fun k hk b hb z => by
          rcases List.mem_cons.mp z with e | z
          · exact p.r.ap k i b hk hb (by rw [e]; exact hl1)
          · rcases mem2 b z with z | z
            · exact p.r.ap k i b hk hb (by rw [eo]; exact List.mem_cons_of_mem _ z)
            · exact (po.ow b z).2.1 (p1.r.ow k b hb).1)
      refine ⟨b1, esV, y, rfl, rfl, g2, by rw [← line_eq, ← g4]; exact of_decide_eq_true gl, h2.ret σ _ _ pf (((pk.ev.trans po.ev).go p.wd).trans gg)⟩
end
/-! ### xs[k] = v, d[k] = v -/
theorem PSet.or {X : Cx} {t t' : TSet} (h : PSet X t) (h' : PSet X t') : PSet X (fun o i v H Q => t o i v H Q ∨ t' o i v H Q) := by
  intro pins s σ H o i v ov iv u Q I ro ri rv q
  rcases q with q | q
  · exact h pins s σ H o i v ov iv u Q I ro ri rv q
  · exact h' pins s σ H o i v ov iv u Q I ro ri rv q
def rSetAll : TSet := fun o i v H Q => rSetL o i v H Q ∨ rSetD o i v H Q
theorem set_all {X : Cx} (hu : X.A.units + 64 < cLine) : PSet X rSetAll := PSet.or set_list (set_dict (by omega))
def krepV : List Key → List V → Key → V → List V
  | k :: ks, v :: vs, q, x => (if k = q then x else v) :: krepV ks vs q x
  | _, vs, _, _ => vs
theorem krep_len : ∀ {ks : List Key} {ds : List D} {q : Key} {d : D}, (krep ks ds q d).length = ds.length
  | [], ds, _, _ => rfl
  | k :: ks, [], _, _ => rfl
  | k :: ks, d :: ds, q, x => by show (krep ks ds q x).length + 1 = ds.length + 1; rw [krep_len]
theorem zip_krep : ∀ {ks : List Key} {vs : List V} {q : Key} {x : V}, (ks.zip vs).map (fun kv => if kv.1 = q then (kv.1, x) else kv) = ks.zip (krepV ks vs q x)
  | [], vs, _, _ => rfl
  | k :: ks, [], _, _ => rfl
  | k :: ks, v :: vs, q, x => by
    show (if k = q then (k, x) else (k, v)) :: _ = (k, if k = q then x else v) :: ks.zip (krepV ks vs q x)
    rw [← zip_krep]
    congr 1
    by_cases e : k = q
    · rw [if_pos e, if_pos e]
    · rw [if_neg e, if_neg e]
theorem krep_rep {K : PySem.W.Frag} {w : World} {s : Sx} {d : D} {v : V} (rd : Rep K w s d v []) {q : Key} : ∀ {ks : List Key} {ds : List D} {vs : List V}, RepL K w s ds vs [] → RepL K w s (krep ks ds q d) (krepV ks vs q v) []
  | [], _, _, h => h
  | k :: ks, [], vs, h => by
    obtain ⟨rfl, _⟩ := h
    exact ⟨rfl, rfl⟩
  | k :: ks, x :: ds, vs, h => by
    obtain ⟨y, vs', e, r2, r3⟩ := h.cons_of
    subst e
    refine RepL.cons ?_ (krep_rep rd r3)
    by_cases e : k = q
    · rw [if_pos e, if_pos e]; exact rd
    · rw [if_neg e, if_neg e]; exact r2
theorem any_zip {ks : List Key} {vs : List V} {q : Key} (l : ks.length = vs.length) : ((ks.zip vs).any fun kv => decide (kv.1 = q)) = ks.any fun k => decide (k = q) := by
  induction ks generalizing vs with
  | nil => rfl
  | cons k ks ih =>
    cases vs with
    | nil => simp at l
    | cons v vs =>
      rw [List.zip_cons_cons, List.any_cons, List.any_cons, ih (by simpa using l)]
theorem kput_rep {K : PySem.W.Frag} {w : World} {s : Sx} {d : D} {v : V} {q : Key} {ks : List Key} {ds : List D} {vs : List V} (rd : Rep K w s d v []) (r : RepL K w s ds vs []) (l : ks.length = ds.length) :
    ∃ vs', putK (ks.zip vs) q v = (kput ks ds q d).1.zip vs' ∧ (kput ks ds q d).1.length = (kput ks ds q d).2.length ∧ RepL K w s (kput ks ds q d).2 vs' [] := by
  unfold putK kput
  rw [any_zip (by rw [l, r.len])]
  by_cases e : (ks.any fun k => decide (k = q)) = true
  · rw [if_pos e, if_pos e]
    exact ⟨krepV ks vs q v, zip_krep, by rw [krep_len]; exact l, krep_rep rd r⟩
  · rw [if_neg e, if_neg e]
    refine ⟨vs ++ [v], ?_, by simp [l], RepL.append r (RepL.cons rd ⟨rfl, rfl⟩)⟩
    rw [List.zip_append (by rw [l, r.len])]
    rfl
section
variable {C : Ctx} {e a b : Expr} {f g h : Env → M D} {pos pos' pos'' apos spos : Pos} {i : Nat} {x : Str}
def putKK (i : Nat) (g f : Env → M D) : Env → M Fl := fun ρ => match ρ[i]? with
    | some (some x) => M.bind (f ρ) fun d => M.bind (g ρ) fun k => guard' d.nb (M.bind (putD x k d) fun x' => M.ret (.nx (ρ.set i (some x'))))
    | _ => M.bad
theorem pg_subS {X : Cx} {o i : Expr} {to ti : TE} {t : TSet} (ho : PE X o to) (hi : PE X i ti) (hs : PSet X t) (hn : notSlice i = true) : PG X (.Subscript o i pos) (gSub to ti t) :=
  pg_sub ho hi hs (by intro v; cases i <;> first | rfl | cases hn)
theorem ok_put (hu : C.X.A.units + 64 < cLine) (hN : C.X.N[i]? = some x) (hv : Vis C.X.env.scope x) (hd : (x == ("__debug__" : Str)) = false) (hc : (x == ("__classdict__" : Str)) = false) (hk : OkE C b g) (hks : notSlice b = true) (hh : OkE C e f) (hs : notComp e = true) :
    OkS C (.Assign [.Subscript (.Name x pos'') b spos] e pos) (putKK i g f) :=
  PS_imp (ps_asg hh (pg_subS (pe_var hN hv hd hc) hk (set_all hu) hks) (notComp_sole hs _ _ _) rfl rfl) fun Ds σ H ⟨s, ρ, own, μ, e1, p, q⟩ => by
    unfold putKK at q
    cases hρ : ρ[i]? with
    | none => simp only [hρ] at q; exact q.elim
    | some od =>
      cases od with
      | none => simp only [hρ] at q; exact q.elim
      | some x0 =>
        simp only [hρ] at q
        obtain ⟨v, hv, r⟩ := p.r.at_ i _ hρ
        refine ⟨s, ρ, own, μ, e1, p, q.bind.mono fun d μ1 h1 y s1 o po => ?_⟩
        have p1 := p.step po.ev po.wd
        refine ⟨v, hv, s1, ρ, own, μ1, rfl, p1, h1.bind.mono fun k μ2 h2 vk s2 ok pk => ?_⟩
        have p2 := p1.step pk.ev pk.wd
        obtain ⟨nb, h2⟩ := ResG.guard h2
        have eo := Rep.nb _ _ _ po.rep nb
        subst eo
        have rd := pk.ev.rep0 po.wd po.rep
        obtain ⟨v', hv', r2⟩ := p2.r.at_ i _ hρ
        have evv : v' = v := by rw [hv] at hv'; exact (Option.some.inj (Option.some.inj hv')).symm
        subst evv
        have g02 := (po.ev.trans pk.ev).go p.wd
        have hil := (List.getElem?_eq_some_iff.mp hρ).1
        cases x0 with
        | lst b0 ds =>
          cases b0 with
          | false => exact h2.bind.elim
          | true =>
            have h3 := (show ResG C σ ((match ixD ds.length k with
              | some j => guard' (D.nbL ds) (M.ret (.lst true (ds.set j d)))
              | none => M.bad : M D) μ2) _ from h2.bind)
            cases ej : ixD ds.length k with
            | none => rw [ej] at h3; exact h3.elim
            | some j =>
              rw [ej] at h3
              obtain ⟨nbl, h3⟩ := ResG.guard h3
              obtain ⟨m, ek, hj⟩ := ixD_some ej
              subst ek
              obtain ⟨l, vs, o', ev, hH, eo, rr⟩ := r2
              have e0 := RepL.nb _ _ _ rr nbl
              subst e0
              have hl1 : l ∈ own i := by rw [eo]; exact List.mem_cons_self
              have kp := Kp.put (u := .lst (vs.set j y)) p2.wd (p2.r.ow i l hl1).1
              obtain ⟨pf, gg⟩ := p2.upd (i := i) (a := l) (u := .lst (vs.set j y)) (d' := .lst true (ds.set j d)) (v := v') (o2 := [l]) hl1 trivial hil hv
                ⟨l, vs.set j y, [], ev, upd_same, rfl, RepL.keep kp _ _ _ (RepL.set rd j rr) fun _ z => nomatch z⟩ (by simp)
                (fun b hb => by
                  have e' : b = l := by simpa using hb
                  rw [e']; exact ⟨(p2.r.ow i l hl1).1, (p2.r.ow i l hl1).2, p.fr i l hl1⟩)
                (fun k hk b hb z => by
                  have e' : b = l := by simpa using z
                  exact p.r.ap k i b hk hb (by rw [e']; exact hl1))
              exact .inl ⟨l, vs, m, j, ev, pk.rep.1, hH, by rw [← rr.len]; exact hj, h3.ret.ret σ _ _ pf (g02.trans gg)⟩
        | dct b0 ks ds =>
          cases b0 with
          | false => exact h2.bind.elim
          | true =>
            have h3 := (show ResG C σ ((match keyOf k with
              | some k => guard' (decide (ks.length < LINE)) (M.ret (.dct true (kput ks ds k d).1 (kput ks ds k d).2))
              | none => M.bad : M D) μ2) _ from h2.bind)
            cases ek : keyOf k with
            | none => rw [ek] at h3; exact h3.elim
            | some key =>
              rw [ek] at h3
              obtain ⟨gl, h3⟩ := ResG.guard h3
              obtain ⟨l, vs, ev, hH, eo, ll, rr⟩ := r2
              have hl1 : l ∈ own i := by rw [eo]; exact List.mem_cons_self
              obtain ⟨vs', e1', e2', e3'⟩ := kput_rep (q := key) rd rr ll
              have kp := Kp.put (u := .dK ((kput ks ds key d).1.zip vs')) p2.wd (p2.r.ow i l hl1).1
              obtain ⟨pf, gg⟩ := p2.upd (i := i) (a := l) (u := .dK ((kput ks ds key d).1.zip vs')) (d' := .dct true (kput ks ds key d).1 (kput ks ds key d).2) (v := v') (o2 := [l]) hl1 trivial hil hv
                ⟨l, vs', ev, upd_same, rfl, e2', RepL.keep kp _ _ _ e3' fun _ z => nomatch z⟩ (by simp)
                (fun b hb => by
                  have e' : b = l := by simpa using hb
                  rw [e']; exact ⟨(p2.r.ow i l hl1).1, (p2.r.ow i l hl1).2, p.fr i l hl1⟩)
                (fun k hk b hb z => by
                  have e' : b = l := by simpa using z
                  exact p.r.ap k i b hk hb (by rw [e']; exact hl1))
              refine .inr ⟨l, upd s2.H l (.dK ((kput ks ds key d).1.zip vs')), ev, .inl ⟨_, key, hH, (pk.rep.key ek).1, ?_, by rw [e1']⟩, h3.ret.ret σ _ _ pf (g02.trans gg)⟩
              rw [← line_eq, List.length_zip, ← rr.len, ← ll, Nat.min_self]
              exact of_decide_eq_true gl
        | _ => exact h2.bind.elim
/-! shared objects -/
theorem setR_ok {a k d : D} {μ : Sto} {σ : L2.St} {F : Unit → Sto → Prop} (h : ResG C σ (setR a k d μ) F) : ∃ n m ds j, a = .ref n ∧ k = .int m ∧ μ[n]? = some ds ∧ ixN ds.length m = some j ∧ F () (μ.set n (ds.set j d)) := by
  cases a with
  | ref n =>
    have h : ResG C σ (match μ[n]? with
      | some ds => match ixD ds.length k with
        | some j => .ok () (μ.set n (ds.set j d))
        | none => .bad
      | none => .bad) F := h
    cases em : μ[n]? with
    | none => rw [em] at h; exact h.elim
    | some ds =>
      rw [em] at h
      dsimp only at h
      cases ej : ixD ds.length k with
      | none => rw [ej] at h; exact h.elim
      | some j =>
        rw [ej] at h
        obtain ⟨m, ek, hj⟩ := ixD_some ej
        exact ⟨n, m, ds, j, rfl, ek, em, hj, h⟩
  | _ => exact h.elim
def rputK (h g f : Env → M D) : Env → M Fl := fun ρ => M.bind (f ρ) fun d => M.bind (h ρ) fun a => M.bind (g ρ) fun k => guard' d.nb (M.bind (setR a k d) fun _ => M.ret (.nx ρ))
theorem ok_rput (hu : C.X.A.units + 64 < cLine) (ha : OkE C a h) (hk : OkE C b g) (hks : notSlice b = true) (hh : OkE C e f) (hs : notComp e = true) : OkS C (.Assign [.Subscript a b spos] e pos) (rputK h g f) :=
  PS_imp (ps_asg hh (pg_subS ha hk (set_all hu) hks) (notComp_sole hs _ _ _) rfl rfl) fun Ds σ H ⟨s, ρ, own, μ, e1, p, q⟩ => by
    refine ⟨s, ρ, own, μ, e1, p, q.bind.mono fun d μ1 h1 y s1 o po => ?_⟩
    have p1 := p.step po.ev po.wd
    refine ⟨s1, ρ, own, μ1, rfl, p1, h1.bind.mono fun x2 μ2 h2 v2 s2 o2 po2 => ?_⟩
    have p2 := p1.step po2.ev po2.wd
    refine ⟨s2, ρ, own, μ2, rfl, p2, h2.bind.mono fun k μ3 h3 v3 s3 o3 po3 => ?_⟩
    have p3 := p2.step po3.ev po3.wd
    obtain ⟨nb, h3⟩ := ResG.guard h3
    have eo := Rep.nb _ _ _ po.rep nb
    subst eo
    have rd := po3.ev.rep0 po2.wd (po2.ev.rep0 po.wd po.rep)
    obtain ⟨n, m, ds, j, ea, ek, em, hj, hF⟩ := setR_ok h3.bind
    subst ea ek
    obtain ⟨a, en, ev, eo⟩ := po2.rep
    subst eo
    obtain ⟨a, en, ev, _⟩ := po3.ev.rep0 po2.wd po2.rep
    obtain ⟨vs, hH, r⟩ := p3.wd.at_ n a ds en em
    obtain ⟨pf, gg⟩ := p3.refSet (j := j) en em hH r rd
    exact .inl ⟨a, vs, m, j, ev, po3.rep.1, hH, by rw [← r.len]; exact hj, hF.ret σ own _ pf (((po.ev.trans (po2.ev.trans po3.ev)).go p.wd).trans gg)⟩
theorem get_list {X : Cx} : PGet X (rIxL X.K) := by
  intro pins s σ H x y v u Q I rx ry h
  obtain ⟨p, xs, i, z, rfl, rfl, hq, he, q⟩ := h
  cases rx
  obtain ⟨t, rfl⟩ := ry
  obtain ⟨its, r, pl, hz⟩ := I.list hq
  obtain ⟨j, h1, h2, h3, h4, h5⟩ := atI_get he
  obtain ⟨w, ew, rw'⟩ := r.get h2
  have hl := r.length
  have hn := line63
  have fin : EP X pins σ Q w s := ⟨z, H, I, rw', q⟩
  by_cases h0 : 0 ≤ i
  · have hj : i.toNat = j := by
      rw [seqIndex_of h0 h5] at h1
      exact Option.some.inj h1
    exact wpAny_getItem_list pl.isList h0 (by omega) (by rw [hj]; simpa using ew) fin
  · have hj : (i + (its.toArray.size : Int)).toNat = j := by
      rw [seqIndex_neg (by omega) h4] at h1
      rw [List.size_toArray, ← hl]
      exact Option.some.inj h1
    exact wpAny_getItem_list_neg pl.isList (by omega) (by rw [List.size_toArray] <;> omega) (by omega) (by rw [hj]; simpa using ew) fin
theorem getR_ok {a k : D} {μ : Sto} {σ : L2.St} {F : D → Sto → Prop} (h : ResG C σ (getR a k μ) F) : ∃ n m ds j d, a = .ref n ∧ k = .int m ∧ μ[n]? = some ds ∧ ixN ds.length m = some j ∧ ds[j]? = some d ∧ F d μ := by
  cases a with
  | ref n =>
    have h : ResG C σ (match μ[n]? with
      | some ds => match ixD ds.length k with
        | some j => ofO ds[j]? μ
        | none => .bad
      | none => .bad) F := h
    cases em : μ[n]? with
    | none => rw [em] at h; exact h.elim
    | some ds =>
      rw [em] at h
      dsimp only at h
      cases ej : ixD ds.length k with
      | none => rw [ej] at h; exact h.elim
      | some j =>
        rw [ej] at h
        obtain ⟨m, ek, hj⟩ := ixD_some ej
        obtain ⟨d, ed, hF⟩ := h.ofO
        exact ⟨n, m, ds, j, d, rfl, ek, em, hj, ed, hF⟩
  | _ => exact h.elim
def raugK (op : Bop) (h g f : Env → M D) : Env → M Fl := fun ρ => M.bind (h ρ) fun a => M.bind (g ρ) fun k => M.bind (getR a k) fun x => M.bind (f ρ) fun y => M.bind (augD op x y) fun d => M.bind (setR a k d) fun _ => M.ret (.nx ρ)
theorem ok_raug {op : Bop} (ha : OkE C a h) (hk : OkE C b g) (hks : notSlice b = true) (hh : OkE C e f) : OkS C (.AugAssign (.Subscript a b spos) (augOp op) e pos) (raugK op h g f) :=
  PS_imp (ps_augS ha hk get_list hh (ip_aug op) set_list (by intros; cases b <;> first | rfl | cases hks)) fun Ds σ H ⟨s, ρ, own, μ, e1, p, q⟩ => by
    refine ⟨s, ρ, own, μ, e1, p, q.bind.mono fun a μ1 h1 va s1 oa pa => ?_⟩
    have p1 := p.step pa.ev pa.wd
    refine ⟨s1, ρ, own, μ1, rfl, p1, h1.bind.mono fun k μ2 h2 vk s2 ok pk => ?_⟩
    have p2 := p1.step pk.ev pk.wd
    obtain ⟨n, m, ds, j, x0, ea, ek, em, hj, hx, hF⟩ := getR_ok h2.bind
    subst ea ek
    obtain ⟨a, en, ev, eo⟩ := pa.rep
    subst eo
    obtain ⟨a, en, ev, _⟩ := pk.ev.rep0 pa.wd pa.rep
    obtain ⟨vs, hH, r⟩ := p2.wd.at_ n a ds en em
    obtain ⟨vx, hvx, rx⟩ := r.at_ hx
    refine ⟨a, vs, m, vx, ev, pk.rep.1, .of hH, by unfold L2.atI; rw [← r.len, hj]; exact hvx, s2, ρ, own, μ2, rfl, p2, hF.bind.mono fun y μ3 h3 vy s3 oy py => ?_⟩
    have p3 := p2.step py.ev py.wd
    obtain ⟨i1, i2, e1', e2', h4⟩ := augD_ok h3.bind
    subst e1' e2'
    obtain ⟨n', m', ds', j', ea, ek, em', hj', hF'⟩ : ∃ n' m' ds' j', (D.ref n) = .ref n' ∧ (D.int m) = .int m' ∧ μ3[n']? = some ds' ∧ ixN ds'.length m' = some j' ∧ (FlP C Ds s (.nx ρ) (μ3.set n' (ds'.set j' (.int (augI op i1 i2))))) := by
      rcases h4 with ⟨rfl, h4⟩ | ⟨rfl, h4⟩
      · obtain ⟨n', m', ds', j', a1, a2, a3, a4, a5⟩ := setR_ok h4.bind
        exact ⟨n', m', ds', j', a1, a2, a3, a4, a5.ret⟩
      · obtain ⟨n', m', ds', j', a1, a2, a3, a4, a5⟩ := setR_ok h4.bind
        exact ⟨n', m', ds', j', a1, a2, a3, a4, a5.ret⟩
    cases ea
    cases ek
    have en3 : s3.ι[n]? = some a := (py.ev.kp p2.wd).ref en
    obtain ⟨vs3, hH3, r3⟩ := p3.wd.at_ n a ds' en3 em'
    obtain ⟨pf, gg⟩ := p3.refSet (j := j') (d := .int (augI op i1 i2)) (v := .int (augI op i1 i2)) en3 em' hH3 r3 ⟨rfl, rfl⟩
    exact ⟨i1, i2, rx.1, py.rep.1, a, vs3, m, j', ev, pk.rep.1, hH3, by rw [← r3.len]; exact hj', hF' σ own _ pf (((pa.ev.trans (pk.ev.trans py.ev)).go p.wd).trans gg)⟩
end
end Vf

/-! V12 -/
set_option autoImplicit false
set_option linter.all false
set_option Elab.async false
set_option maxHeartbeats 4000000
set_option maxRecDepth 10000
/-! V12: the look at the text; expressions. -/
namespace Vf
open PySem PySem.Spec PyProof.Rows L2

/-- what is known of names where one stands -/
structure Inf where
  N : List Str
  sc : Scope
  own : Option Scope
  calm : Bool
def Inf.at_ (t : Inf) (i : Nat) (x : Str) : Bool := decide (t.N[i]? = some x) && !(x == ("__debug__" : Str)) && !(x == ("__classdict__" : Str))
def Inf.see (t : Inf) (i : Nat) (x : Str) : Bool := t.at_ i x && (decide (t.sc.names.lookup x = some .local) || decide (t.sc.names.lookup x = some .cell) || decide (t.sc.names.lookup x = some .free))
def Inf.sto (t : Inf) (i : Nat) (x : Str) : Bool := t.at_ i x && (decide (t.sc.names.lookup x = some .local) || (decide (t.sc.names.lookup x = some .cell) && (match t.own with | none => true | some s => s.names.lookup x == some .cell)))
def Inf.gl (t : Inf) (x : Str) : Bool := decide (t.sc.names.lookup x = some .globalImplicit) && !(x == ("__debug__" : Str))
def Inf.blk (t : Inf) (scope : Scope) : Inf := ⟨t.N, relS scope t.sc, some scope, t.calm⟩
def ownOf (N : List Str) (ix : List Nat) : List (Str × Nat) := ix.map fun i => (N.getD i "", i)
theorem ownOf_snd (N : List Str) (ix : List Nat) : (ownOf N ix).map (·.2) = ix := by
  unfold ownOf
  rw [List.map_map]
  induction ix with
  | nil => rfl
  | cons i ix ih => rw [List.map_cons, ih]; rfl
/-- the defs' numbers of parameters -/
abbrev Sig := List (Str × Nat)
def opB : Operator → Bop → Bool
  | .Add, .add => true
  | .Sub, .sub => true
  | .Mult, .mul => true
  | .FloorDiv, .fdiv => true
  | .Mod, .mod => true
  | .Pow, .pow => true
  | _, _ => false
def bltS : Blt → Str
  | .len => "len" | .all => "all" | .any => "any" | .sum => "sum" | .sorted => "sorted" | .list => "list" | .tuple => "tuple" | .int => "int" | .abs => "abs" | .str => "str" | .lenum => "list" | .trev => "tuple"
def needCalm : Blt → Bool
  | .all | .any | .sum | .sorted => true
  | _ => false
def restE (op : BoolOp) (y : Expr) (r : List Expr) (pos : Pos) : Expr := match r with | [] => y | _ :: _ => .BoolOp op (y :: r) pos
def notIf : Expr → Bool
  | .IfExp .. => false
  | _ => true
mutual
def chkT : T → Inf → Expr → Bool
  | .nm i, t, .Name x _ => t.sto i x
  | .tup ts, t, .Tuple es _ _ => t.calm && decide (es.length = ts.length) && es.all notStar && chkTs ts t es
  | _, _, _ => false
def chkTs : List T → Inf → List Expr → Bool
  | [], _, [] => true
  | t :: ts, i, e :: es => chkT t i e && chkTs ts i es
  | _, _, _ => false
end
def isTupE : Expr → Bool
  | .Tuple .. => true
  | _ => false
def asDct1 : Expr → Option (Expr × Expr)
  | .Dict [some k] [v] _ => some (k, v)
  | _ => none
def asRev : Expr → Option Expr
  | .Subscript a (.Slice none none (some (.UnaryOp .USub (.Constant (.int 1) _ _) _)) _) _ => some a
  | _ => none
def asIsi : Expr → Option (Str × Expr × Str)
  | .Call (.Name x _) [a, .Name y _] [] _ => some (x, a, y)
  | _ => none
def asCall : Expr → Option (Str × Expr × List Expr)
  | .Call (.Name x _) (e :: es) [] _ => some (x, e, es)
  | _ => none
def asCall1 : Expr → Option (Str × Expr)
  | .Call (.Name x _) [a] [] _ => some (x, a)
  | _ => none
def asCall2 : Expr → Option (Str × Expr × Expr)
  | .Call (.Name x _) [a, b] [] _ => some (x, a, b)
  | _ => none
def asRevT : Expr → Option (Str × Str × Expr)
  | .Call (.Name x _) [.Call (.Name y _) [a] [] _] [] _ => some (x, y, a)
  | _ => none
def asLc : Expr → Option (Expr × Expr × Expr × List Expr × Int × Scope)
  | .ListComp e [⟨tg, it, c, n⟩] scope _ => some (e, tg, it, c, n, scope)
  | _ => none
def asLc2 : Expr → Option (Expr × Expr × Expr × Int × Expr × Expr × List Expr × Int × Scope)
  | .ListComp e [⟨tg, it, [], n⟩, ⟨tg2, it2, c2, n2⟩] scope _ => some (e, tg, it, n, tg2, it2, c2, n2, scope)
  | _ => none
def asFld : Expr → Option (Str × Str)
  | .Attribute (.Name x _) f _ => some (x, f)
  | _ => none
def asIsE : Expr → Option (Str × Str × Str)
  | .Call (.Name z _) [.Name x _, .Name y _] [] _ => some (z, x, y)
  | _ => none
theorem asFld_ok {e : Expr} {x f : Str} (h : asFld e = some (x, f)) : ∃ p q, e = .Attribute (.Name x p) f q := by
  unfold asFld at h; split at h <;> cases h; exact ⟨_, _, rfl⟩
theorem asIsE_ok {e : Expr} {z x y : Str} (h : asIsE e = some (z, x, y)) : ∃ p q r u, e = .Call (.Name z p) [.Name x q, .Name y r] [] u := by
  unfold asIsE at h; split at h <;> cases h; exact ⟨_, _, _, _, rfl⟩
theorem asDct1_ok {e k v : Expr} (h : asDct1 e = some (k, v)) : ∃ p, e = .Dict [some k] [v] p := by
  unfold asDct1 at h; split at h <;> cases h; exact ⟨_, rfl⟩
theorem asRev_ok {e a : Expr} (h : asRev e = some a) : ∃ k p1 p2 p3 p, e = .Subscript a (.Slice none none (some (.UnaryOp .USub (.Constant (.int 1) k p1) p2)) p3) p := by
  unfold asRev at h; split at h <;> cases h; exact ⟨_, _, _, _, _, rfl⟩
theorem asIsi_ok {e a : Expr} {x y : Str} (h : asIsi e = some (x, a, y)) : ∃ p q r, e = .Call (.Name x p) [a, .Name y q] [] r := by
  unfold asIsi at h; split at h <;> cases h; exact ⟨_, _, _, rfl⟩
theorem asCall_ok {e a : Expr} {x : Str} {es : List Expr} (h : asCall e = some (x, a, es)) : ∃ p r, e = .Call (.Name x p) (a :: es) [] r := by
  unfold asCall at h; split at h <;> cases h; exact ⟨_, _, rfl⟩
theorem asCall1_ok {e a : Expr} {x : Str} (h : asCall1 e = some (x, a)) : ∃ p r, e = .Call (.Name x p) [a] [] r := by
  unfold asCall1 at h; split at h <;> cases h; exact ⟨_, _, rfl⟩
theorem asCall2_ok {e a b : Expr} {x : Str} (h : asCall2 e = some (x, a, b)) : ∃ p r, e = .Call (.Name x p) [a, b] [] r := by
  unfold asCall2 at h; split at h <;> cases h; exact ⟨_, _, rfl⟩
theorem asRevT_ok {e a : Expr} {x y : Str} (h : asRevT e = some (x, y, a)) : ∃ p q r u, e = .Call (.Name x p) [.Call (.Name y q) [a] [] r] [] u := by
  unfold asRevT at h; split at h <;> cases h; exact ⟨_, _, _, _, rfl⟩
theorem asLc_ok {e e1 tg it : Expr} {c : List Expr} {n : Int} {scope : Scope} (h : asLc e = some (e1, tg, it, c, n, scope)) : ∃ p, e = .ListComp e1 [⟨tg, it, c, n⟩] scope p := by
  unfold asLc at h; split at h <;> cases h; exact ⟨_, rfl⟩
theorem asLc2_ok {e e1 tg it tg2 it2 : Expr} {c : List Expr} {n n2 : Int} {scope : Scope} (h : asLc2 e = some (e1, tg, it, n, tg2, it2, c, n2, scope)) : ∃ p, e = .ListComp e1 [⟨tg, it, [], n⟩, ⟨tg2, it2, c, n2⟩] scope p := by
  unfold asLc2 at h; split at h <;> cases h; exact ⟨_, rfl⟩
section
variable (G : Sig)
mutual
def chkE : E → Inf → Expr → Bool
  | .var i, t, .Name x _ => t.see i x
  | .brw i, t, .Name x _ => t.see i x
  | .non, _, .Constant .none _ _ => true
  | .bl b, _, .Constant (.bool c) _ _ => b == c
  | .int i, _, .Constant (.int j) _ _ => decide (i = j)
  | .str x, _, .Constant (.str y) _ _ => decide (x = y)
  | .glob x, t, .Name y _ => decide (x = y) && t.gl x
  | .bin op a b, t, .BinOp a' op' b' _ => opB op' op && chkE a t a' && chkE b t b'
  | .neg a, t, .UnaryOp .USub a' _ => !isBrw a && chkE a t a'
  | .not a, t, .UnaryOp .Not a' _ => notIf a' && chkE a t a'
  | .and a b, t, .BoolOp .And (x :: y :: r) pos => !isBrw a && !isBrw b && notIf x && notIf (restE .And y r pos) && chkE a t x && chkE b t (restE .And y r pos)
  | .or a b, t, .BoolOp .Or (x :: y :: r) pos => !isBrw a && !isBrw b && notIf x && notIf (restE .Or y r pos) && chkE a t x && chkE b t (restE .Or y r pos)
  | .cmp op a b, t, .Compare a' [op'] [b'] _ => decide (op' = copOf op) && notSet b' && chkE a t a' && chkE b t b'
  | .chain op op2 a b c, t, .Compare a' [op', op2'] [b', c'] _ => decide (op' = copOf op) && decide (op2' = copOf op2) && notSet c' && chkE a t a' && chkE b t b' && chkE c t c'
  | .ife c a b, t, .IfExp c' a' b' _ => notIf c' && !isBrw a && !isBrw b && chkE c t c' && chkE a t a' && chkE b t b'
  | .tup es, t, .Tuple es' _ _ => chkEs es t es'
  | .lst es, t, .List es' _ => chkEs es t es'
  | .newRef es, t, .List es' _ => chkEs es t es'
  | .dct0, _, .Dict [] [] _ => true
  | .dct1 k v, t, e' => match asDct1 e' with
    | some (k', v') => !isBrw k && !isBrw v && chkE k t k' && chkE v t v'
    | none => false
  | .idx a i, t, .Subscript a' i' _ => !isBrw i && notSlice i' && chkE a t a' && chkE i t i'
  | .slc a lo hi, t, .Subscript a' (.Slice lo' hi' none _) _ => chkE a t a' && chkO lo t lo' && chkO hi t hi'
  | .rev a, t, e' => match asRev e' with
    | some a' => chkE a t a'
    | none => false
  | .isi a ty, t, e' => match asIsi e' with
    | some (x, a', y) => decide (x = "isinstance") && decide (y = Str.ofString (tyN ty)) && t.gl x && t.gl y && notStar a' && chkE a t a'
    | none => false
  | .fld i f, t, e' => match asFld e' with
    | some (x, f') => decide (f' = f) && !t.calm && t.see i x
    | none => false
  | .isE i c, t, e' => match asIsE e' with
    | some (z, x, y) => decide (z = "isinstance") && decide (y = c) && !t.calm && t.see i x && t.gl z && t.gl y
    | none => false
  | .call f es, t, e' => match asCall e' with
    | some (x, e1, es') => t.calm && decide (x = f) && t.gl x && decide (G.lookup f = some es.length) && chkEs es t (e1 :: es')
    | none => false
  | .callB f es, t, e' => match asCall e' with
    | some (x, e1, es') => t.calm && decide (x = f) && t.gl x && decide (G.lookup f = some es.length) && (e1 :: es').all notStar && chkBs es t (e1 :: es')
    | none => false
  | .blt b e, t, e' => match b with
    | .trev => match asRevT e' with
      | some (x, y, a') => t.calm && decide (x = "tuple") && decide (y = "reversed") && t.gl x && t.gl y && notStar a' && chkE e t a'
      | none => false
    | .lenum => false
    | b => match asCall1 e' with
      | some (x, a') => (!needCalm b || t.calm) && decide (x = bltS b) && t.gl x && notStar a' && chkE e t a'
      | none => false
  | .lc tg it c e, t, e' => match asLc e' with
    | some (e1, tg', it', c', n, scope) => t.calm && decide (n = 0) && !isBrw e && notSetI it' && blkC t.N t.sc scope (ownOf t.N tg.ix) && chkI it t tg' it' && chkT tg (t.blk scope) tg' && chkC c (t.blk scope) c' && chkE e (t.blk scope) e1
    | none => false
  | .lc2 tg it tg2 it2 c e, t, e' => match asLc2 e' with
    | some (e1, tg', it', n, tg2', it2', c', n2, scope) => t.calm && decide (n = 0) && decide (n2 = 0) && !isBrw e && notSetI it' && notSetI it2' && blkC t.N t.sc scope (ownOf t.N (tg.ix ++ tg2.ix)) && chkI it t tg' it' && chkT tg (t.blk scope) tg'
      && chkI it2 (t.blk scope) tg2' it2' && chkT tg2 (t.blk scope) tg2' && chkC c (t.blk scope) c' && chkE e (t.blk scope) e1
    | none => false
  | _, _, _ => false
def chkEs : List E → Inf → List Expr → Bool
  | [], _, [] => true
  | e :: es, t, e' :: es' => !isBrw e && notStar e' && chkE e t e' && chkEs es t es'
  | _, _, _ => false
def chkBs : List E → Inf → List Expr → Bool
  | [], _, [] => true
  | .brw i :: es, t, .Name x _ :: es' => t.see i x && chkBs es t es'
  | _, _, _ => false
def chkO : Option E → Inf → Option Expr → Bool
  | none, _, none => true
  | some e, t, some e' => !isBrw e && chkE e t e'
  | _, _, _ => false
def chkC : Option E → Inf → List Expr → Bool
  | none, _, [] => true
  | some e, t, [e'] => notIf e' && chkE e t e'
  | _, _, _ => false
def chkI : I → Inf → Expr → Expr → Bool
  | .seq e, t, _, e' => !isBrw e && chkE e t e'
  | .rng1 a, t, _, e' => match asCall1 e' with
    | some (x, a') => decide (x = "range") && t.gl x && !isBrw a && notStar a' && chkE a t a'
    | none => false
  | .rng2 a b, t, _, e' => match asCall2 e' with
    | some (x, a', b') => decide (x = "range") && t.gl x && !isBrw a && !isBrw b && notStar a' && notStar b' && chkE a t a' && chkE b t b'
    | none => false
  | .enum e, t, tg, e' => match asCall1 e' with
    | some (x, a') => decide (x = "enumerate") && t.gl x && isTupE tg && !isBrw e && notStar a' && chkE e t a'
    | none => false
  | .zip a b, t, tg, e' => match asCall2 e' with
    | some (x, a', b') => decide (x = "zip") && t.gl x && isTupE tg && !isBrw a && !isBrw b && notStar a' && notStar b' && chkE a t a' && chkE b t b'
    | none => false
  | .rev e, t, _, e' => match asCall1 e' with
    | some (x, a') => decide (x = "reversed") && t.gl x && !isBrw e && notStar a' && chkE e t a'
    | none => false
end
end
end Vf

/-! V13 -/
set_option autoImplicit false
set_option linter.all false
set_option Elab.async false
set_option maxHeartbeats 4000000
set_option maxRecDepth 10000
/-! V13: expressions of the table are right. -/
namespace Vf
open PySem PySem.Spec PyProof.Rows L2

def bltN : List Str := ["len", "all", "any", "sum", "sorted", "list", "tuple", "int", "abs", "str", "bool", "dict", "reversed", "enumerate", "zip", "range", "isinstance"]
structure Fx (G : Sig) (C : Ctx) (t : Inf) : Prop where
  hN : C.X.N = t.N
  hsc : C.X.env.scope = t.sc
  nd : C.X.N.Nodup
  kind : C.X.env.scope.kind = .function
  fn : ∀ x, C.X.fn x = (match t.own with | none => true | some s => s.names.lookup x == some .cell)
  calm : t.calm = true → C.X.calm = true ∧ C.xh = none
  hu : C.X.A.units + 64 < cLine
  tk : Takes C.X C.W
  blt : ∀ x ∈ bltN, C.X.mg x = none
  gls : ∀ x d, C.Φ.gl x = some d → ∃ v u, C.X.mg x = some u ∧ RelV v u ∧ ∀ s, Rep C.K C.w s d v []
  fns : t.calm = true → ∀ f np, G.lookup f = some np → ∃ k fa fd ps, C.X.mg f = some (.ref fa) ∧ PySem.W.keepIn C.X.K (.ref fa) = true ∧ Binds C.X.K fd ps [] ∧ Room k C.X.A ∧
    FnOk C.X.prog C.X.w C.X.K C.X.mg C.X.base (L2.CX C.X.prog C.X.w) k fa fd ps (SpF C.K C.w C.X.mg C.cls np (C.Φ.fn f))
  fld : t.calm = false → ∀ (i : Nat) (x f : Str) (p1 p2 : Pos), t.see i x = true → OkE C (.Attribute (.Name x p1) f p2) (evE C.Φ (.fld i f))
  isE : t.calm = false → ∀ (i : Nat) (x c : Str) (p p1 p2 pos : Pos), t.see i x = true → t.gl "isinstance" = true → t.gl c = true → OkE C (.Call (.Name "isinstance" p) [.Name x p1, .Name c p2] [] pos) (evE C.Φ (.isE i c))
section
variable {G : Sig} {C : Ctx} {t : Inf}
theorem Fx.blk (F : Fx G C t) (hc : t.calm = true) {scope : Scope} (hk : scope.kind = .function) (s : Shared) (H : Hp) (a : Addr) (cl : List (Str × Addr)) (fp : List Addr) : Fx G (C.blk s H scope (compEnvC scope cl a C.X.env) fp) (t.blk scope) where
  hN := F.hN
  hsc := by
    show relS scope C.X.env.scope = relS scope t.sc
    rw [F.hsc]
  nd := F.nd
  kind := hk
  fn := fun _ => rfl
  calm := F.calm
  fld := fun h => absurd (hc.symm.trans h) (by decide)
  isE := fun h => absurd (hc.symm.trans h) (by decide)
  hu := F.hu
  tk := takes0
  blt := F.blt
  gls := F.gls
  fns := F.fns
theorem at_ok (F : Fx G C t) {i : Nat} {x : Str} (h : t.at_ i x = true) : C.X.N[i]? = some x ∧ (x == ("__debug__" : Str)) = false ∧ (x == ("__classdict__" : Str)) = false := by
  unfold Inf.at_ at h
  simp only [Bool.and_eq_true, Bool.not_eq_true', decide_eq_true_eq] at h
  exact ⟨by rw [F.hN]; exact h.1.1, h.1.2, h.2⟩
theorem see_ok (F : Fx G C t) {i : Nat} {x : Str} (h : t.see i x = true) : C.X.N[i]? = some x ∧ Vis C.X.env.scope x ∧ (x == ("__debug__" : Str)) = false ∧ (x == ("__classdict__" : Str)) = false := by
  unfold Inf.see at h
  obtain ⟨h1, h2⟩ := Bool.and_eq_true_iff.mp h
  obtain ⟨a, b, c⟩ := at_ok F h1
  refine ⟨a, ?_, b, c⟩
  simp only [Bool.or_eq_true, decide_eq_true_eq] at h2
  unfold Vis
  rw [F.hsc]
  rcases h2 with (h2 | h2) | h2
  · exact .inl h2
  · exact .inr (.inl h2)
  · exact .inr (.inr h2)
theorem sto_ok (F : Fx G C t) {i : Nat} {x : Str} (h : t.sto i x = true) : C.X.N[i]? = some x ∧ L2.Loc C.X.env.scope x ∧ (C.X.fn x = true ∨ C.X.env.scope.names.lookup x = some .local) := by
  unfold Inf.sto at h
  obtain ⟨h1, h2⟩ := Bool.and_eq_true_iff.mp h
  obtain ⟨a, b, c⟩ := at_ok F h1
  refine ⟨a, ?_⟩
  unfold L2.Loc
  rw [F.hsc, F.fn]
  rcases Bool.or_eq_true_iff.mp h2 with h2 | h2
  · have h2 := of_decide_eq_true h2
    exact ⟨.inl h2, .inr h2⟩
  · obtain ⟨h3, h4⟩ := Bool.and_eq_true_iff.mp h2
    exact ⟨.inr (of_decide_eq_true h3), .inl h4⟩
theorem gl_ok (F : Fx G C t) {x : Str} (h : t.gl x = true) : Gl C.X x ∧ (x == ("__debug__" : Str)) = false := by
  unfold Inf.gl at h
  simp only [Bool.and_eq_true, Bool.not_eq_true', decide_eq_true_eq] at h
  refine ⟨?_, h.2⟩
  show C.X.env.scope.names.lookup x = some .globalImplicit
  rw [F.hsc]
  exact h.1
mutual
theorem okT (F : Fx G C t) : ∀ (g : T) (e : Expr), chkT g t e = true → OkG C e g
  | .nm i, e, h => by
    cases e with
    | Name x p =>
      obtain ⟨a, b, c⟩ := sto_ok F h
      exact ok_gname F.nd a b c
    | _ => cases h
  | .tup ts, e, h => by
    cases e with
    | Tuple es k p =>
      have h : (t.calm && decide (es.length = ts.length) && es.all notStar && chkTs ts t es) = true := h
      simp only [Bool.and_eq_true, decide_eq_true_eq] at h
      exact ok_gtup (F.calm h.1.1.1).1 (okTs F ts es h.2) h.1.1.2 h.1.2
    | _ => cases h
theorem okTs (F : Fx G C t) : ∀ (gs : List T) (es : List Expr), chkTs gs t es = true → OkGs C es gs
  | [], [], _ => ok_gnil
  | [], _ :: _, h => by cases h
  | _ :: _, [], h => by cases h
  | g :: gs, e :: es, h => by
    have h : (chkT g t e && chkTs gs t es) = true := h
    obtain ⟨h1, h2⟩ := Bool.and_eq_true_iff.mp h
    exact ok_gcons (okT F g e h1) (okTs F gs es h2) (by cases e <;> first | rfl | (cases g <;> cases h1))
end
theorem ok_never {e : Expr} {f : Env → M D} (h : ∀ ρ μ, f ρ μ = .bad) : OkE C e f := ⟨fun pins s σ H Q I ⟨s0, ρ, own, μ, _, _, q⟩ => by
  rw [h] at q; exact q.elim⟩
def isBoolE : Expr → Bool
  | .BoolOp .. => true
  | _ => false
structure Snd (C : Ctx) (e : E) (e' : Expr) : Prop where
  val : isBrw e = false → OkE C e' (evE C.Φ e)
  opd : OkB C e' (fun ρ => M.bind (evE C.Φ e ρ) (opnd (isBrw e)))
  tst : notIf e' = true → OkT C e' (fun ρ => M.bind (M.bind (evE C.Φ e ρ) (opnd (isBrw e))) tests)
  bl : isBoolE e' = true → OkW C e' (asT (evE C.Φ e))
theorem plain_nb {e : Expr} (h : plainT e = true) : isBoolE e = false := by
  cases e <;> first | rfl | cases h
/-- a plain expression -/
theorem Snd.of {e : E} {e' : Expr} (hb : isBrw e = false) (hp : plainT e' = true) (h : OkE C e' (evE C.Φ e)) : Snd C e e' := by
  have o : OkB C e' (fun ρ => M.bind (evE C.Φ e ρ) (opnd (isBrw e))) := by rw [hb]; exact ok_opnd h
  exact ⟨fun _ => h, o, fun _ => ok_truth o hp, fun z => by rw [plain_nb hp] at z; cases z⟩
/-- one with its own test -/
theorem Snd.ofT {e : E} {e' : Expr} (hb : isBrw e = false) (hn : isBoolE e' = false) (h : OkE C e' (evE C.Φ e)) (ht : OkT C e' (asT (evE C.Φ e))) : Snd C e e' :=
  ⟨fun _ => h, by rw [hb]; exact ok_opnd h, fun _ => by rw [hb]; exact ht, fun z => by rw [hn] at z; cases z⟩
theorem Snd.ofW {e : E} {e' : Expr} (hb : isBrw e = false) (h : OkE C e' (evE C.Φ e)) (ht : OkW C e' (asT (evE C.Φ e))) : Snd C e e' :=
  ⟨fun _ => h, by rw [hb]; exact ok_opnd h, fun _ => by rw [hb]; exact ht.pt, fun _ => ht⟩
/-- one that is no test -/
theorem Snd.ofV {e : E} {e' : Expr} (hb : isBrw e = false) (hn : isBoolE e' = false) (hi : notIf e' = false) (h : OkE C e' (evE C.Φ e)) : Snd C e e' :=
  ⟨fun _ => h, by rw [hb]; exact ok_opnd h, (fun z => by rw [hi] at z; cases z), (fun z => by rw [hn] at z; cases z)⟩
theorem Snd.tstA {e : E} {e' : Expr} (h : Snd C e e') (hi : notIf e' = true) (hb : isBrw e = false) : OkT C e' (asT (evE C.Φ e)) := by
  have := h.tst hi
  rw [hb] at this
  exact this
theorem evEs_len {Φ : Cfg} : ∀ {es : List E} {ρ : Env} {μ μ' : Sto} {ds : List D}, evEs Φ es ρ μ = .ok ds μ' → ds.length = es.length
  | [], _, _, _, _, h => by cases h; rfl
  | e :: es, ρ, μ, μ', ds, h => by
    obtain ⟨d, μ1, _, h⟩ := bind_ok (show M.bind (evE Φ e ρ) (fun d => M.bind (evEs Φ es ρ) fun ds => M.ret (d :: ds)) μ = .ok ds μ' from h)
    obtain ⟨ds', μ2, h1, h⟩ := bind_ok h
    cases h
    rw [List.length_cons, List.length_cons, evEs_len h1]
theorem bm {x : Str} (F : Fx G C t) (h : x ∈ bltN) : C.X.mg x = none := F.blt x h
def opO : Bop → Operator
  | .add => .Add | .sub => .Sub | .mul => .Mult | .fdiv => .FloorDiv | .mod => .Mod | .pow => .Pow
theorem opB_ok {op' : Operator} {op : Bop} (h : opB op' op = true) : op' = opO op := by
  cases op <;> cases op' <;> first | rfl | cases h
theorem chkEs_ns : ∀ {es : List E} {es' : List Expr}, chkEs G es t es' = true → es'.length = es.length ∧ es'.all notStar = true
  | [], [], _ => ⟨rfl, rfl⟩
  | [], _ :: _, h => by cases h
  | _ :: _, [], h => by cases h
  | e :: es, e' :: es', h => by
    have h : (!isBrw e && notStar e' && chkE G e t e' && chkEs G es t es') = true := h
    simp only [Bool.and_eq_true] at h
    obtain ⟨a, b⟩ := chkEs_ns h.2
    exact ⟨by rw [List.length_cons, a, List.length_cons], by rw [List.all_cons, h.1.1.2, b]; rfl⟩
/-- a call of a built-in with one argument -/
theorem okBlt (F : Fx G C t) {b : Blt} {e : E} {a' : Expr} {p pos : Pos} (hb : b ≠ .lenum) (hb2 : b ≠ .trev) (hc : (!needCalm b || t.calm) = true) (hg : Gl C.X (bltS b)) (hs : notStar a' = true) (ha : Snd C e a') : OkE C (.Call (.Name (bltS b) p) [a'] [] pos) (evE C.Φ (.blt b e)) := by
  cases b with
  | len => exact ok_blt (bltD .len) call_len hg (bm F (by decide)) PySem.boot_len (by decide) (by decide) ha.opd hs fun σ s μ x vx Q W r h => kLen W r h
  | all => exact ok_blt (bltD .all) (cr_all (F.calm hc).1) hg (bm F (by decide)) (by decide +kernel) (by decide) (by decide) ha.opd hs fun σ s μ x vx Q W r h => kAll W r h
  | any => exact ok_blt (bltD .any) (cr_any (F.calm hc).1) hg (bm F (by decide)) (by decide +kernel) (by decide) (by decide) ha.opd hs fun σ s μ x vx Q W r h => kAny W r h
  | sum => exact ok_blt (bltD .sum) (cr_sum (F.calm hc).1) hg (bm F (by decide)) (by decide +kernel) (by decide) (by decide) ha.opd hs fun σ s μ x vx Q W r h => kSum W r h
  | sorted => exact ok_blt (bltD .sorted) (cr_sortAll (F.calm hc).1) hg (bm F (by decide)) (by decide +kernel) (by decide) (by decide) ha.opd hs fun σ s μ x vx Q W r h => kSorted W r h
  | list => exact ok_bltT (bltD .list) call_list_of hg (bm F (by decide)) (by decide +kernel) (by decide) (by decide) ha.opd hs fun σ s μ x vx Q W r h => kList W r h
  | tuple => exact ok_bltT (bltD .tuple) call_tuple_of hg (bm F (by decide)) (by decide +kernel) (by decide) (by decide) ha.opd hs fun σ s μ x vx Q W r h => kTuple W r h
  | int => exact ok_bltT (bltD .int) call_int1 hg (bm F (by decide)) (by decide +kernel) (by decide) (by decide) ha.opd hs fun σ s μ x vx Q W r h => kInt W r h
  | abs => exact ok_blt (bltD .abs) call_abs hg (bm F (by decide)) (by decide +kernel) (by decide) (by decide) ha.opd hs fun σ s μ x vx Q W r h => kAbs W r h
  | str => exact ok_bltT (bltD .str) call_str_int hg (bm F (by decide)) (by decide +kernel) (by decide) (by decide) ha.opd hs fun σ s μ x vx Q W r h => kStr W r h
  | lenum => exact absurd rfl hb
  | trev => exact absurd rfl hb2
theorem ok_trev {a' : Expr} {f : Env → M D} {p p2 pos pos2 : Pos} (hc : C.X.calm = true) (hg : Gl C.X "tuple") (hm : C.X.mg "tuple" = none) (hg2 : Gl C.X "reversed") (hm2 : C.X.mg "reversed" = none) (ha : OkB C a' f) (hs : notStar a' = true) :
    OkE C (.Call (.Name "tuple" p) [.Call (.Name "reversed" p2) [a'] [] pos2] [] pos) (fun ρ => M.bind (f ρ) (bltD .trev)) :=
  PE_imp (RT.pe_tupRev hc hg hm hg2 hm2 ha (notStar_ok hs [] _)) fun σ H Q ⟨s, ρ, own, μ, e1, p, q⟩ => ⟨s, ρ, own, μ, e1, p, q.bind.mono fun x μ1 h1 v s1 p1 => by
    cases x with
    | lst b ds =>
      obtain ⟨a, vs, ev, hq, r⟩ := p1.rep
      have h1 : ResG C σ (M.ret (D.tup ds.reverse) μ1) _ := h1
      exact ⟨a, vs, ev, hq.sq, fun p' hp => h1.ret (.ref p') (s1.tup p' (.tup vs.reverse)) [] (Post.newT p1.ev p1.wd r.rev List.nodup_nil (fun _ z => nomatch z) hp)⟩
    | _ => exact h1.elim⟩
end

section
variable {G : Sig} {C : Ctx} {t : Inf}
theorem chkBs_ok (F : Fx G C t) : ∀ {es : List E} {es' : List Expr}, chkBs G es t es' = true → ∃ is : List Nat, es'.length = is.length ∧
    (∀ j : Nat, ∀ e' i, es'[j]? = some e' → is[j]? = some i → ∃ x p, e' = .Name x p ∧ C.X.N[i]? = some x ∧ Vis C.X.env.scope x ∧ (x == ("__debug__" : Str)) = false ∧ (x == ("__classdict__" : Str)) = false) ∧
    es.length = is.length ∧ ∀ ρ, evEs C.Φ es ρ = brwsK is ρ
  | [], [], _ => ⟨[], rfl, fun j e' i h => by simp at h, rfl, fun ρ => rfl⟩
  | [], _ :: _, h => by cases h
  | e :: es, [], h => by cases e <;> cases h
  | e :: es, e' :: es', h => by
    cases e with
    | brw i =>
      cases e' with
      | Name x p =>
        obtain ⟨h1, h2⟩ := Bool.and_eq_true_iff.mp (show (t.see i x && chkBs G es t es') = true from h)
        obtain ⟨is, a, b, c, d⟩ := chkBs_ok F h2
        refine ⟨i :: is, by rw [List.length_cons, List.length_cons, a], fun j e2 i2 h3 h4 => ?_, by rw [List.length_cons, List.length_cons, c], fun ρ => ?_⟩
        · cases j with
          | zero =>
            simp at h3 h4
            subst h3 h4
            obtain ⟨q1, q2, q3, q4⟩ := see_ok F h1
            exact ⟨x, p, rfl, q1, q2, q3, q4⟩
          | succ j => exact b j e2 i2 (by simpa using h3) (by simpa using h4)
        · show M.bind _ (fun d => M.bind (evEs C.Φ es ρ) fun ds => M.ret (d :: ds)) = _
          rw [d ρ]
          rfl
      | _ => cases h
    | _ => cases e' <;> cases h
end
/-! ### every expression -/
section
variable {G : Sig}
theorem okO_of {e : E} {e' : Expr} {C : Ctx} (h : OkE C e' (evE C.Φ e)) : OkO C (some e') (evO C.Φ (some e)) := ok_osome h
mutual
theorem okE {C : Ctx} {t : Inf} (F : Fx G C t) : ∀ (e : E) (e' : Expr), chkE G e t e' = true → Snd C e e'
  | .var i, e', h => by
    cases e' with
    | Name x p =>
      obtain ⟨a, b, c, d⟩ := see_ok F h
      exact Snd.of rfl rfl (ok_var a b c d)
    | _ => cases h
  | .brw i, e', h => by
    cases e' with
    | Name x p =>
      obtain ⟨a, b, c, d⟩ := see_ok F h
      have o := ok_brw (pos := p) a b c d
      exact ⟨(fun z => nomatch z), o, fun _ => ok_truth o rfl, (fun z => nomatch z)⟩
    | _ => cases h
  | .non, e', h => by
    cases e' with
    | Constant c j p => cases c <;> first | exact Snd.of rfl rfl (ok_const pe_non fun s => ⟨rfl, rfl⟩) | cases h
    | _ => cases h
  | .bl b, e', h => by
    cases e' with
    | Constant c j p =>
      cases c with
      | bool b' =>
        have e : b = b' := by simpa using (show (b == b') = true from h)
        subst e
        exact Snd.of rfl rfl (ok_const pe_bl fun s => ⟨rfl, rfl⟩)
      | _ => cases h
    | _ => cases h
  | .int i, e', h => by
    cases e' with
    | Constant c j p =>
      cases c with
      | int b' =>
        have e := of_decide_eq_true (show decide (i = b') = true from h)
        subst e
        exact Snd.of rfl rfl (ok_const pe_int fun s => ⟨rfl, rfl⟩)
      | _ => cases h
    | _ => cases h
  | .str i, e', h => by
    cases e' with
    | Constant c j p =>
      cases c with
      | str b' =>
        have e := of_decide_eq_true (show decide (i = b') = true from h)
        subst e
        exact Snd.of rfl rfl (ok_const pe_str fun s => ⟨rfl, rfl⟩)
      | _ => cases h
    | _ => cases h
  | .glob x, e', h => by
    cases e' with
    | Name y p =>
      obtain ⟨h1, h2⟩ := Bool.and_eq_true_iff.mp (show (decide (x = y) && t.gl x) = true from h)
      have e := of_decide_eq_true h1
      subst e
      obtain ⟨hg, hd⟩ := gl_ok F h2
      cases hl : C.Φ.gl x with
      | none => exact Snd.of rfl rfl (ok_never fun ρ μ => by show ofO (C.Φ.gl x) μ = .bad; rw [hl]; rfl)
      | some d =>
        obtain ⟨v, u, a, b, c⟩ := F.gls x d hl
        exact Snd.of rfl rfl (ok_glob hg a b hd c hl)
    | _ => cases h
  | .bin op a b, e', h => by
    cases e' with
    | BinOp a' op' b' p =>
      have h : (opB op' op && chkE G a t a' && chkE G b t b') = true := h
      simp only [Bool.and_eq_true] at h
      have ha := okE F a a' h.1.2
      have hb := okE F b b' h.2
      have e := opB_ok h.1.1
      subst e
      cases op with
      | add => exact Snd.of rfl rfl (ok_add ha.opd hb.opd)
      | sub => exact Snd.of rfl rfl (ok_sub ha.opd hb.opd)
      | mul => exact Snd.of rfl rfl (ok_mul ha.opd hb.opd)
      | fdiv => exact Snd.of rfl rfl (ok_fdiv ha.opd hb.opd)
      | mod => exact Snd.of rfl rfl (ok_mod ha.opd hb.opd)
      | pow => exact Snd.of rfl rfl (ok_pow ha.opd hb.opd)
    | _ => cases h
  | .neg a, e', h => by
    cases e' with
    | UnaryOp op a' p =>
      cases op with
      | USub =>
        obtain ⟨h1, h2⟩ := Bool.and_eq_true_iff.mp (show (!isBrw a && chkE G a t a') = true from h)
        exact Snd.of rfl rfl (ok_neg ((okE F a a' h2).val (by simpa using h1)))
      | _ => cases h
    | _ => cases h
  | .not a, e', h => by
    cases e' with
    | UnaryOp op a' p =>
      cases op with
      | Not =>
        obtain ⟨h1, h2⟩ := Bool.and_eq_true_iff.mp (show (notIf a' && chkE G a t a') = true from h)
        have ha := okE F a a' h2
        exact Snd.ofT rfl rfl (ok_not ha.opd) (ok_tnot (t := fun _ => M.bad) (ha.tst h1))
      | _ => cases h
    | _ => cases h
  | .and a b, e', h => by
    cases e' with
    | BoolOp op vs p =>
      cases op with
      | And =>
        match vs, h with
        | x :: y :: r, h =>
          have h : (!isBrw a && !isBrw b && notIf x && notIf (restE .And y r p) && chkE G a t x && chkE G b t (restE .And y r p)) = true := h
          simp only [Bool.and_eq_true, Bool.not_eq_true'] at h
          obtain ⟨⟨⟨⟨⟨h1, h2⟩, h3⟩, h4⟩, h5⟩, h6⟩ := h
          have ha := okE F a x h5
          have hb := okE F b _ h6
          have rest : OkE C (.BoolOp .And (y :: r) p) (evE C.Φ b) ∧ OkW C (.BoolOp .And (y :: r) p) (asT (evE C.Φ b)) := by
            cases r with
            | nil => exact ⟨ok_one (hb.val h2), ok_w1 (hb.tstA h4 h2)⟩
            | cons z r => exact ⟨hb.val h2, hb.bl rfl⟩
          exact Snd.ofW rfl (ok_and (ha.val h1) rest.1) (ok_tand (ha.tstA h3 h1) rest.2)
        | [], h => cases h
        | [_], h => cases h
      | Or => cases h
    | _ => cases h
  | .or a b, e', h => by
    cases e' with
    | BoolOp op vs p =>
      cases op with
      | Or =>
        match vs, h with
        | x :: y :: r, h =>
          have h : (!isBrw a && !isBrw b && notIf x && notIf (restE .Or y r p) && chkE G a t x && chkE G b t (restE .Or y r p)) = true := h
          simp only [Bool.and_eq_true, Bool.not_eq_true'] at h
          obtain ⟨⟨⟨⟨⟨h1, h2⟩, h3⟩, h4⟩, h5⟩, h6⟩ := h
          have ha := okE F a x h5
          have hb := okE F b _ h6
          have rest : OkE C (.BoolOp .Or (y :: r) p) (evE C.Φ b) ∧ OkW C (.BoolOp .Or (y :: r) p) (asT (evE C.Φ b)) := by
            cases r with
            | nil => exact ⟨ok_one (hb.val h2), ok_w1 (hb.tstA h4 h2)⟩
            | cons z r => exact ⟨hb.val h2, hb.bl rfl⟩
          exact Snd.ofW rfl (ok_or (ha.val h1) rest.1) (ok_tor (ha.tstA h3 h1) rest.2)
        | [], h => cases h
        | [_], h => cases h
      | And => cases h
    | _ => cases h
  | .cmp op a b, e', h => by
    cases e' with
    | Compare a' ops bs p =>
      match ops, bs, h with
      | [op'], [b'], h =>
        have h : (decide (op' = copOf op) && notSet b' && chkE G a t a' && chkE G b t b') = true := h
        simp only [Bool.and_eq_true, decide_eq_true_eq] at h
        obtain ⟨⟨⟨e, h1⟩, h2⟩, h3⟩ := h
        subst e
        have ha := okE F a a' h2
        have hb := okE F b b' h3
        exact Snd.ofT rfl rfl (ok_cmp F.hu op ha.opd hb.opd h1) (ok_tcmp F.hu op ha.opd hb.opd h1)
      | [], _, h => cases h
      | _ :: _ :: _, [], h => cases h
      | _ :: _ :: _, _ :: _, h => cases h
      | [_], [], h => cases h
      | [_], _ :: _ :: _, h => cases h
    | _ => cases h
  | .chain op op2 a b c, e', h => by
    cases e' with
    | Compare a' ops bs p =>
      match ops, bs, h with
      | [op', op2'], [b', c'], h =>
        have h : (decide (op' = copOf op) && decide (op2' = copOf op2) && notSet c' && chkE G a t a' && chkE G b t b' && chkE G c t c') = true := h
        simp only [Bool.and_eq_true, decide_eq_true_eq] at h
        obtain ⟨⟨⟨⟨⟨e, e2⟩, h1⟩, h2⟩, h3⟩, h4⟩ := h
        subst e e2
        have ha := okE F a a' h2
        have hb := okE F b b' h3
        have hc := okE F c c' h4
        exact Snd.ofT rfl rfl (ok_chain F.hu op op2 ha.opd hb.opd hc.opd h1) (ok_tchain F.hu op op2 ha.opd hb.opd hc.opd h1)
      | [], _, h => cases h
      | [_], _, h => cases h
      | _ :: _ :: _ :: _, [], h => cases h
      | _ :: _ :: _ :: _, _ :: _, h => cases h
      | [_, _], [], h => cases h
      | [_, _], [_], h => cases h
      | [_, _], _ :: _ :: _ :: _, h => cases h
    | _ => cases h
  | .ife c a b, e', h => by
    cases e' with
    | IfExp c' a' b' p =>
      have h : (notIf c' && !isBrw a && !isBrw b && chkE G c t c' && chkE G a t a' && chkE G b t b') = true := h
      simp only [Bool.and_eq_true, Bool.not_eq_true'] at h
      obtain ⟨⟨⟨⟨⟨h0, h1⟩, h2⟩, h3⟩, h4⟩, h5⟩ := h
      exact Snd.ofV rfl rfl rfl (ok_ife ((okE F c c' h3).tst h0) ((okE F a a' h4).val h1) ((okE F b b' h5).val h2))
    | _ => cases h
  | .tup es, e', h => by
    cases e' with
    | Tuple es' k p => exact Snd.of rfl rfl (ok_tup (okEs F es es' h))
    | _ => cases h
  | .lst es, e', h => by
    cases e' with
    | List es' p => exact Snd.of rfl rfl (ok_lst (okEs F es es' h))
    | _ => cases h
  | .newRef es, e', h => by
    cases e' with
    | List es' p => exact Snd.of rfl rfl (ok_newRef (okEs F es es' h))
    | _ => cases h
  | .dct0, e', h => by
    cases e' with
    | Dict ks vs p =>
      match ks, vs, h with
      | [], [], h => exact Snd.of rfl rfl ok_dct0
      | [], _ :: _, h => cases h
      | _ :: _, [], h => cases h
      | _ :: _, _ :: _, h => cases h
    | _ => cases h
  | .dct1 k v, e', h => by
    replace h : (match asDct1 e' with
      | some (k', v') => !isBrw k && !isBrw v && chkE G k t k' && chkE G v t v'
      | none => false) = true := h
    cases ea : asDct1 e' with
    | none => rw [ea] at h; cases h
    | some z =>
      obtain ⟨k', v'⟩ := z
      rw [ea] at h
      simp only [Bool.and_eq_true, Bool.not_eq_true'] at h
      obtain ⟨p, rfl⟩ := asDct1_ok ea
      exact Snd.of rfl rfl (ok_dct1 ((okE F k k' h.1.2).val h.1.1.1) ((okE F v v' h.2).val h.1.1.2))
  | .idx a i, e', h => by
    cases e' with
    | Subscript a' i' p =>
      have h : (!isBrw i && notSlice i' && chkE G a t a' && chkE G i t i') = true := h
      simp only [Bool.and_eq_true, Bool.not_eq_true'] at h
      exact Snd.of rfl rfl (ok_idx F.hu (okE F a a' h.1.2).opd ((okE F i i' h.2).val h.1.1.1) h.1.1.2)
    | _ => cases h
  | .slc a lo hi, e', h => by
    cases e' with
    | Subscript a' i' p =>
      cases i' with
      | Slice lo' hi' st p2 =>
        cases st with
        | none =>
          have h : (chkE G a t a' && chkO G lo t lo' && chkO G hi t hi') = true := h
          simp only [Bool.and_eq_true] at h
          exact Snd.of rfl rfl (ok_slc (okE F a a' h.1.1).opd (okO F lo lo' h.1.2) (okO F hi hi' h.2))
        | some _ => cases h
      | _ => cases h
    | _ => cases h
  | .rev a, e', h => by
    replace h : (match asRev e' with
      | some a' => chkE G a t a'
      | none => false) = true := h
    cases ea : asRev e' with
    | none => rw [ea] at h; cases h
    | some a' =>
      rw [ea] at h
      simp only [Bool.and_eq_true, Bool.not_eq_true', decide_eq_true_eq] at h
      obtain ⟨k, p1, p2, p3, p, rfl⟩ := asRev_ok ea
      exact Snd.of rfl rfl (ok_rev (okE F a a' h).opd)
  | .isi a ty, e', h => by
    replace h : (match asIsi e' with
      | some (x, a', y) => decide (x = "isinstance") && decide (y = Str.ofString (tyN ty)) && t.gl x && t.gl y && notStar a' && chkE G a t a'
      | none => false) = true := h
    cases ea : asIsi e' with
    | none => rw [ea] at h; cases h
    | some z =>
      obtain ⟨x, a', y⟩ := z
      rw [ea] at h
      simp only [Bool.and_eq_true, Bool.not_eq_true', decide_eq_true_eq] at h
      obtain ⟨p, q, r, rfl⟩ := asIsi_ok ea
      obtain ⟨⟨⟨⟨⟨rfl, rfl⟩, h3⟩, h4⟩, h5⟩, h6⟩ := h
      exact Snd.of rfl rfl (ok_isi ty (gl_ok F h3).1 (bm F (by decide)) (gl_ok F h4).1 (bm F (by cases ty <;> decide)) (okE F a a' h6).opd h5)
  | .fld i f, e', h => by
    replace h : (match asFld e' with
      | some (x, f') => decide (f' = f) && !t.calm && t.see i x
      | none => false) = true := h
    cases ea : asFld e' with
    | none => rw [ea] at h; cases h
    | some z =>
      obtain ⟨x, f'⟩ := z
      rw [ea] at h
      simp only [Bool.and_eq_true, Bool.not_eq_true', decide_eq_true_eq] at h
      obtain ⟨p, q, rfl⟩ := asFld_ok ea
      obtain ⟨⟨rfl, h2⟩, h3⟩ := h
      exact Snd.of rfl rfl (F.fld h2 i x _ p q h3)
  | .isE i c, e', h => by
    replace h : (match asIsE e' with
      | some (z, x, y) => decide (z = "isinstance") && decide (y = c) && !t.calm && t.see i x && t.gl z && t.gl y
      | none => false) = true := h
    cases ea : asIsE e' with
    | none => rw [ea] at h; cases h
    | some z =>
      obtain ⟨z, x, y⟩ := z
      rw [ea] at h
      simp only [Bool.and_eq_true, Bool.not_eq_true', decide_eq_true_eq] at h
      obtain ⟨p, q, r, u, rfl⟩ := asIsE_ok ea
      obtain ⟨⟨⟨⟨⟨rfl, rfl⟩, h2⟩, h3⟩, h4⟩, h5⟩ := h
      exact Snd.of rfl rfl (F.isE h2 i x _ p q r u h3 h4 h5)
  | .call f es, e', h => by
    replace h : (match asCall e' with
      | some (x, e1, es') => t.calm && decide (x = f) && t.gl x && decide (G.lookup f = some es.length) && chkEs G es t (e1 :: es')
      | none => false) = true := h
    cases ea : asCall e' with
    | none => rw [ea] at h; cases h
    | some z =>
      obtain ⟨x, e1, es'⟩ := z
      rw [ea] at h
      simp only [Bool.and_eq_true, Bool.not_eq_true', decide_eq_true_eq] at h
      obtain ⟨p, r, rfl⟩ := asCall_ok ea
      obtain ⟨⟨⟨⟨hc, rfl⟩, h2⟩, h3⟩, h4⟩ := h
      obtain ⟨k, fa, fd, ps, hm, hk, hb, hr, FO⟩ := F.fns hc _ _ h3
      obtain ⟨hl, hs⟩ := chkEs_ns h4
      exact Snd.of rfl rfl (ok_call FO hr (gl_ok F h2).1 hm hk hb F.tk (okEs F es _ h4) hl.symm (fun ρ μ ds μ' he => (evEs_len he).trans hl.symm) (gl_ok F h2).2 hs)
  | .callB f es, e', h => by
    replace h : (match asCall e' with
      | some (x, e1, es') => t.calm && decide (x = f) && t.gl x && decide (G.lookup f = some es.length) && (e1 :: es').all notStar && chkBs G es t (e1 :: es')
      | none => false) = true := h
    cases ea : asCall e' with
    | none => rw [ea] at h; cases h
    | some z =>
      obtain ⟨x, e1, es'⟩ := z
      rw [ea] at h
      simp only [Bool.and_eq_true, Bool.not_eq_true', decide_eq_true_eq] at h
      obtain ⟨p, r, rfl⟩ := asCall_ok ea
      obtain ⟨⟨⟨⟨⟨hc, rfl⟩, h2⟩, h3⟩, hs⟩, h4⟩ := h
      obtain ⟨k, fa, fd, ps, hm, hk, hb, hr, FO⟩ := F.fns hc _ _ h3
      obtain ⟨is, h5, h6, h7⟩ := chkBs_ok F h4
      have z := ok_callB (pos := r) (p := p) FO hr (gl_ok F h2).1 hm hk hb F.tk h6 h5 (by rw [h7.1]) (gl_ok F h2).2 hs
      refine Snd.of rfl rfl ?_
      show OkE C _ (fun ρ => M.bind (evEs C.Φ es ρ) fun ds μ => match C.Φ.fn x (D.fzL ds) [] with
        | .ok d _ => if d.flat && D.nrL ds then .ok d μ else .bad
        | _ => .bad)
      have e2 : (fun ρ => M.bind (evEs C.Φ es ρ) fun ds μ => match C.Φ.fn x (D.fzL ds) [] with
        | .ok d _ => if d.flat && D.nrL ds then .ok d μ else .bad
        | _ => .bad) = (fun ρ => M.bind (brwsK is ρ) fun ds μ => match C.Φ.fn x (D.fzL ds) [] with
        | .ok d _ => if d.flat && D.nrL ds then .ok d μ else .bad
        | _ => .bad) := by funext ρ; rw [h7.2 ρ]
      exact e2 ▸ z
  | .blt b e, e', h => by
    by_cases hb : b = .trev
    · subst hb
      replace h : (match asRevT e' with
        | some (x, y, a') => t.calm && decide (x = "tuple") && decide (y = "reversed") && t.gl x && t.gl y && notStar a' && chkE G e t a'
        | none => false) = true := h
      cases ea : asRevT e' with
      | none => rw [ea] at h; cases h
      | some z =>
        obtain ⟨x, y, a'⟩ := z
        rw [ea] at h
        simp only [Bool.and_eq_true, Bool.not_eq_true', decide_eq_true_eq] at h
        obtain ⟨p, q, r, u, rfl⟩ := asRevT_ok ea
        obtain ⟨⟨⟨⟨⟨⟨hc, rfl⟩, rfl⟩, h3⟩, h4⟩, h5⟩, h6⟩ := h
        exact Snd.of rfl rfl (ok_trev (F.calm hc).1 (gl_ok F h3).1 (bm F (by decide)) (gl_ok F h4).1 (bm F (by decide)) (okE F e a' h6).opd h5)
    · by_cases hb2 : b = .lenum
      · subst hb2
        replace h : false = true := h
        cases h
      · replace h : (match asCall1 e' with
          | some (x, a') => (!needCalm b || t.calm) && decide (x = bltS b) && t.gl x && notStar a' && chkE G e t a'
          | none => false) = true := by cases b <;> first | exact h | exact absurd rfl hb | exact absurd rfl hb2
        cases ea : asCall1 e' with
        | none => rw [ea] at h; cases h
        | some z =>
          obtain ⟨x, a'⟩ := z
          rw [ea] at h
          simp only [Bool.and_eq_true, decide_eq_true_eq] at h
          obtain ⟨p, r, rfl⟩ := asCall1_ok ea
          obtain ⟨⟨⟨⟨hc, rfl⟩, h2⟩, h3⟩, h4⟩ := h
          exact Snd.of rfl rfl (okBlt F hb2 hb hc (gl_ok F h2).1 h3 (okE F e a' h4))
  | .lc tg it c e, e', h => by
    replace h : (match asLc e' with
      | some (e1, tg', it', c', n, scope) => t.calm && decide (n = 0) && !isBrw e && notSetI it' && blkC t.N t.sc scope (ownOf t.N tg.ix) && chkI G it t tg' it' && chkT tg (t.blk scope) tg' && chkC G c (t.blk scope) c' && chkE G e (t.blk scope) e1
      | none => false) = true := h
    cases ea : asLc e' with
    | none => rw [ea] at h; cases h
    | some z =>
      obtain ⟨e1, tg', it', c', n, scope⟩ := z
      rw [ea] at h
      simp only [Bool.and_eq_true, Bool.not_eq_true', decide_eq_true_eq] at h
      obtain ⟨p, rfl⟩ := asLc_ok ea
      obtain ⟨⟨⟨⟨⟨⟨⟨⟨hc, rfl⟩, h2⟩, h3⟩, h4⟩, h5⟩, h6⟩, h7⟩, h8⟩ := h
      have ok := blkOk_by h4
      exact Snd.of rfl rfl (ok_lc (F.calm hc).1 F.nd (okI F it tg' it' h5) (by rw [F.hN, F.hsc]; exact ok) (ownOf_snd _ _) (fun s H a cl fp => okT (F.blk hc ok.kind s H a cl fp) tg tg' h6) (fun s H a cl fp => okC (F.blk hc ok.kind s H a cl fp) c c' h7) (fun s H a cl fp => (okE (F.blk hc ok.kind s H a cl fp) e e1 h8).val h2) h3)
  | .lc2 tg it tg2 it2 c e, e', h => by
    replace h : (match asLc2 e' with
      | some (e1, tg', it', n, tg2', it2', c', n2, scope) => t.calm && decide (n = 0) && decide (n2 = 0) && !isBrw e && notSetI it' && notSetI it2' && blkC t.N t.sc scope (ownOf t.N (tg.ix ++ tg2.ix)) && chkI G it t tg' it' && chkT tg (t.blk scope) tg'
      && chkI G it2 (t.blk scope) tg2' it2' && chkT tg2 (t.blk scope) tg2' && chkC G c (t.blk scope) c' && chkE G e (t.blk scope) e1
      | none => false) = true := h
    cases ea : asLc2 e' with
    | none => rw [ea] at h; cases h
    | some z =>
      obtain ⟨e1, tg', it', n, tg2', it2', c', n2, scope⟩ := z
      rw [ea] at h
      simp only [Bool.and_eq_true, Bool.not_eq_true', decide_eq_true_eq] at h
      obtain ⟨p, rfl⟩ := asLc2_ok ea
      obtain ⟨⟨⟨⟨⟨⟨⟨⟨⟨⟨⟨⟨hc, rfl⟩, rfl⟩, h2⟩, h3⟩, h3'⟩, h4⟩, h5⟩, h6⟩, h7⟩, h8⟩, h9⟩, h10⟩ := h
      have ok := blkOk_by h4
      exact Snd.of rfl rfl (ok_lc2 (F.calm hc).1 F.nd (okI F it tg' it' h5) (by rw [F.hN, F.hsc]; exact ok) (ownOf_snd _ _) (fun s H a cl fp => okT (F.blk hc ok.kind s H a cl fp) tg tg' h6) (fun s H a cl fp => okI (F.blk hc ok.kind s H a cl fp) it2 tg2' it2' h7) (fun s H a cl fp => okT (F.blk hc ok.kind s H a cl fp) tg2 tg2' h8) (fun s H a cl fp => okC (F.blk hc ok.kind s H a cl fp) c c' h9) (fun s H a cl fp => (okE (F.blk hc ok.kind s H a cl fp) e e1 h10).val h2) h3 h3')
theorem okEs {C : Ctx} {t : Inf} (F : Fx G C t) : ∀ (es : List E) (es' : List Expr), chkEs G es t es' = true → OkA C es' (evEs C.Φ es)
  | [], [], _ => ok_anil
  | [], _ :: _, h => by cases h
  | _ :: _, [], h => by cases h
  | e :: es, e' :: es', h => by
    have h : (!isBrw e && notStar e' && chkE G e t e' && chkEs G es t es') = true := h
    simp only [Bool.and_eq_true, Bool.not_eq_true'] at h
    exact ok_acons ((okE F e e' h.1.2).val h.1.1.1) (okEs F es es' h.2) h.1.1.2
theorem okO {C : Ctx} {t : Inf} (F : Fx G C t) : ∀ (e : Option E) (e' : Option Expr), chkO G e t e' = true → OkO C e' (evO C.Φ e)
  | none, none, _ => ok_onone
  | none, some _, h => by cases h
  | some _, none, h => by cases h
  | some e, some e', h => by
    obtain ⟨h1, h2⟩ := Bool.and_eq_true_iff.mp (show (!isBrw e && chkE G e t e') = true from h)
    exact ok_osome ((okE F e e' h2).val (by simpa using h1))
theorem okC {C : Ctx} {t : Inf} (F : Fx G C t) : ∀ (e : Option E) (e' : List Expr), chkC G e t e' = true → OkTs C e' (evC C.Φ e)
  | none, [], _ => ok_tsnil
  | none, _ :: _, h => by cases h
  | some _, [], h => by cases h
  | some _, _ :: _ :: _, h => by cases h
  | some e, [e'], h => by
    obtain ⟨h1, h2⟩ := Bool.and_eq_true_iff.mp (show (notIf e' && chkE G e t e') = true from h)
    exact ok_tsone ((okE F e e' h2).tst h1)
theorem okI {C : Ctx} {t : Inf} (F : Fx G C t) : ∀ (i : I) (tg e' : Expr), chkI G i t tg e' = true → OkI C tg e' (evI C.Φ i)
  | .seq e, tg, e', h => by
    obtain ⟨h1, h2⟩ := Bool.and_eq_true_iff.mp (show (!isBrw e && chkE G e t e') = true from h)
    have h1 : isBrw e = false := by simpa using h1
    have := ok_iseq (tg := tg) ((okE F e e' h2).val h1)
    show OkI C tg e' (fun ρ => M.bind (M.bind (evE C.Φ e ρ) (opnd (isBrw e))) items)
    rw [h1]
    exact this
  | .rng1 a, tg, e', h => by
    replace h : (match asCall1 e' with
      | some (x, a') => decide (x = "range") && t.gl x && !isBrw a && notStar a' && chkE G a t a'
      | none => false) = true := h
    cases ea : asCall1 e' with
    | none => rw [ea] at h; cases h
    | some z =>
      obtain ⟨x, a'⟩ := z
      rw [ea] at h
      simp only [Bool.and_eq_true, Bool.not_eq_true', decide_eq_true_eq] at h
      obtain ⟨p, r, rfl⟩ := asCall1_ok ea
      obtain ⟨⟨⟨⟨rfl, h2⟩, h3⟩, h4⟩, h5⟩ := h
      exact ok_irng1 (gl_ok F h2).1 (bm F (by decide)) ((okE F a a' h5).val h3) h4
  | .rng2 a b, tg, e', h => by
    replace h : (match asCall2 e' with
      | some (x, a', b') => decide (x = "range") && t.gl x && !isBrw a && !isBrw b && notStar a' && notStar b' && chkE G a t a' && chkE G b t b'
      | none => false) = true := h
    cases ea : asCall2 e' with
    | none => rw [ea] at h; cases h
    | some z =>
      obtain ⟨x, a', b'⟩ := z
      rw [ea] at h
      simp only [Bool.and_eq_true, Bool.not_eq_true', decide_eq_true_eq] at h
      obtain ⟨p, r, rfl⟩ := asCall2_ok ea
      obtain ⟨⟨⟨⟨⟨⟨⟨rfl, h2⟩, h3⟩, h4⟩, h5⟩, h6⟩, h7⟩, h8⟩ := h
      exact ok_irng2 (gl_ok F h2).1 (bm F (by decide)) ((okE F a a' h7).val h3) ((okE F b b' h8).val h4) h5 h6
  | .enum e, tg, e', h => by
    replace h : (match asCall1 e' with
      | some (x, a') => decide (x = "enumerate") && t.gl x && isTupE tg && !isBrw e && notStar a' && chkE G e t a'
      | none => false) = true := h
    cases ea : asCall1 e' with
    | none => rw [ea] at h; cases h
    | some z =>
      obtain ⟨x, a'⟩ := z
      rw [ea] at h
      simp only [Bool.and_eq_true, Bool.not_eq_true', decide_eq_true_eq] at h
      obtain ⟨p, r, rfl⟩ := asCall1_ok ea
      obtain ⟨⟨⟨⟨⟨rfl, h2⟩, ht⟩, h3⟩, h4⟩, h5⟩ := h
      cases tg with
      | Tuple elts kk tpos =>
        have z := ok_ienum (tpos := tpos) (elts := elts) (kk := kk) (p := p) (pos := r) (gl_ok F h2).1 (bm F (by decide)) ((okE F e a' h5).val h3) h4
        show OkI C _ _ (fun ρ => M.bind (M.bind (evE C.Φ e ρ) (opnd (isBrw e))) _)
        rw [h3]
        exact z
      | _ => cases ht
  | .zip a b, tg, e', h => by
    replace h : (match asCall2 e' with
      | some (x, a', b') => decide (x = "zip") && t.gl x && isTupE tg && !isBrw a && !isBrw b && notStar a' && notStar b' && chkE G a t a' && chkE G b t b'
      | none => false) = true := h
    cases ea : asCall2 e' with
    | none => rw [ea] at h; cases h
    | some z =>
      obtain ⟨x, a', b'⟩ := z
      rw [ea] at h
      simp only [Bool.and_eq_true, Bool.not_eq_true', decide_eq_true_eq] at h
      obtain ⟨p, r, rfl⟩ := asCall2_ok ea
      obtain ⟨⟨⟨⟨⟨⟨⟨⟨rfl, h2⟩, ht⟩, h3⟩, h4⟩, h5⟩, h6⟩, h7⟩, h8⟩ := h
      cases tg with
      | Tuple elts kk tpos =>
        have z := ok_izip (tpos := tpos) (elts := elts) (kk := kk) (p := p) (pos := r) (gl_ok F h2).1 (bm F (by decide)) ((okE F a a' h7).val h3) ((okE F b b' h8).val h4) h5 h6
        show OkI C _ _ (fun ρ => M.bind (M.bind (evE C.Φ a ρ) (opnd (isBrw a))) fun x => M.bind (M.bind (evE C.Φ b ρ) (opnd (isBrw b))) _)
        rw [h3, h4]
        exact z
      | _ => cases ht
  | .rev e, tg, e', h => by
    replace h : (match asCall1 e' with
      | some (x, a') => decide (x = "reversed") && t.gl x && !isBrw e && notStar a' && chkE G e t a'
      | none => false) = true := h
    cases ea : asCall1 e' with
    | none => rw [ea] at h; cases h
    | some z =>
      obtain ⟨x, a'⟩ := z
      rw [ea] at h
      simp only [Bool.and_eq_true, Bool.not_eq_true', decide_eq_true_eq] at h
      obtain ⟨p, r, rfl⟩ := asCall1_ok ea
      obtain ⟨⟨⟨⟨rfl, h2⟩, h3⟩, h4⟩, h5⟩ := h
      have z := ok_irev (tg := tg) (p := p) (pos := r) (gl_ok F h2).1 (bm F (by decide)) ((okE F e a' h5).val h3) h4
      show OkI C _ _ (fun ρ => M.bind (M.bind (evE C.Φ e ρ) (opnd (isBrw e))) _)
      rw [h3]
      exact z
end
end
end Vf

/-! VX -/
set_option autoImplicit false
set_option linter.all false
set_option Elab.async false
set_option maxHeartbeats 4000000
set_option maxRecDepth 10000
/-! VX: the caught exception. -/
namespace Vf
open PySem PySem.Spec PyProof.Rows L2

def rIsX (K : PySem.W.Frag) (D a : Addr) (d : Option Addr) : List V → Hp → VK → Prop := fun xs H Q => ∃ (c : V) (cv : Value) (b : Bool), xs = [.ref a, c] ∧ (∀ u, RelV c u → u = cv) ∧ PySem.W.kitOne K (.ref D) cv = some b ∧ (d = none ∨ ∃ dd fv, d = some dd ∧ H dd = some (.xd fv)) ∧ Q (.bl b) H
theorem call_isX {X : Cx} {a D : Addr} {oe : Obj} {d : Option Addr} {pn : List (Addr × Obj)} (C : ExcC X.K D) (hz : Zc (.ref D) d oe) (hf : ∃ vs, oe.data = .fields vs) : CallR (X.suite a ((a, oe) :: pn)) (.builtin "isinstance") (rIsX X.K D a d) := by
  intro pins s σ H xs us Q I r h
  obtain ⟨c, cv, b, rfl, hcv, e, hd, q⟩ := h
  cases r with
  | cons rx rr =>
    cases rr with
    | cons rt rr =>
      cases rr
      cases rx
      have ec := hcv _ rt
      subst ec
      obtain ⟨hget, _⟩ := I.pin (a, oe) (List.mem_append.mpr (.inl List.mem_cons_self))
      obtain ⟨vs, hv⟩ := hf
      have J : ∃ od, PySem.W.InstAt s.heap a oe D od := by
        obtain ⟨oc, od, oda, osl⟩ := oe
        obtain ⟨h1, h2⟩ := hz
        dsimp only at h1 h2 hv
        subst h1 h2 hv
        rcases hd with rfl | ⟨dd, fv, rfl, hH⟩
        · exact ⟨none, hget, rfl, rfl, trivial⟩
        · have hx : ObjOk X.prog X.w H s.heap dd (.xd fv) := I.hok dd _ hH
          obtain ⟨mA, hns, hr⟩ := hx
          obtain ⟨od, ho, hl⟩ := lookIn_ns hns
          exact ⟨some od, hget, rfl, rfl, ho⟩
      obtain ⟨od, J⟩ := J
      exact PySem.W.kia_one (PySem.W.kitx_exc (by obtain ⟨cd, hc, _⟩ := PySem.W.any_some C.hd; rw [hc]; rfl) C.hg C.hk C.hs C.ha C.hn C.ht C.hm) I.kIn J e (fun z => nomatch z) fun tk => ⟨.bl b, H, I.kept (t' := tk) fun _ _ z => z, rfl, q⟩
/-- what the written part says of the exceptions' classes -/
structure XOk (K : PySem.W.Frag) (mg : Str → Option Value) (cls : Str → Option (List Str)) (xi : XI) : Prop where
  sub : ∀ k c b, xi.sub k c = some b → ∃ Ck Cc : Addr, mg k = some (.ref Ck) ∧ mg c = some (.ref Cc) ∧ PySem.W.exmOne K (.ref Ck) (.ref Cc) = some b ∧ PySem.W.kitOne K (.ref Ck) (.ref Cc) = some b ∧ ExcC K Ck
  flds : ∀ k ns, xi.flds k = some ns → cls k = some ns ∧ ∃ Ck : Addr, mg k = some (.ref Ck) ∧ XfC K Ck ∧ ∀ f ∈ ns, PySem.W.findIn K (.ref Ck) f = some none
/-- in the except suite -/
abbrev Ctx.han (C : Ctx) (a : Addr) (oe : Obj) (pn : List (Addr × Obj)) (xh : XH) : Ctx := { C with X := C.X.suite a ((a, oe) :: pn), W := fun _ _ _ _ => False, xh := some xh }
/-- the caught exception's class, dict -/
structure XhOk (C : Ctx) (a : Addr) (cls : Value) (d : Option Addr) (xh : XH) : Prop where
  ea : xh.a = a
  ed : xh.dd = d
  em : C.X.mg xh.c = some cls
  en : C.cls xh.c = some xh.ns
  eo : xh.ns = [] → d = none
theorem lookup_at : ∀ {ns : List Str} {fs : List D} {f : Str} {x : D}, (ns.zip fs).lookup f = some x → ∃ i : Nat, ns[i]? = some f ∧ fs[i]? = some x
  | [], _, _, _, h => by cases h
  | _ :: _, [], _, _, h => by cases h
  | n :: ns, y :: fs, f, x, h => by
    rw [List.zip_cons_cons, List.lookup_cons] at h
    by_cases e : (f == n) = true
    · rw [e] at h
      cases h
      have e : f = n := by simpa using e
      exact ⟨0, by simp [e], rfl⟩
    · have e : (f == n) = false := by simpa using e
      rw [e] at h
      obtain ⟨i, h1, h2⟩ := lookup_at h
      exact ⟨i + 1, by simpa using h1, by simpa using h2⟩
theorem pe_no {X : Cx} {e : Expr} {t : TE} (h : ∀ σ H Q, ¬ t σ H Q) : PE X e t := ⟨fun _ _ σ H Q _ q => (h σ H Q q).elim⟩
section
variable {C : Ctx} {a : Addr} {oe : Obj} {pn : List (Addr × Obj)} {cls : Value} {d : Option Addr} {xh : XH} {i : Nat} {x f c : Str} {p p1 p2 pos : Pos}
theorem ok_fld (XO : XOk C.K C.X.mg C.cls C.Φ.xi) (hx : XhOk C a cls d xh) (hz : Zc cls d oe) (hf : ∃ vs, oe.data = .fields vs) (hN : C.X.N[i]? = some x) (hv : Vis C.X.env.scope x) (hd : (x == ("__debug__" : Str)) = false) (hc : (x == ("__classdict__" : Str)) = false) :
    OkE (C.han a oe pn xh) (.Attribute (.Name x p1) f p2) (evE C.Φ (.fld i f)) := by
  have key : ∀ σ H Q, tD (C.han a oe pn xh) (evE C.Φ (.fld i f)) σ H Q → ∃ ns y s μ, C.Φ.xi.flds xh.c = some ns ∧ (ns.zip xh.fs).lookup f = some y ∧ s.H = H ∧ Wd C.K C.w s μ ∧ σ[i]? = some (some (.ref a)) ∧ XFld C.K C.w s xh ∧ ∀ v s' o, Post C.K C.w s s' μ y v o → Q v s'.H := by
    rintro σ H Q ⟨s, ρ, own, μ, e1, p, q⟩
    have q : ResG (C.han a oe pn xh) σ ((match ρ[i]? with
    | some (some (.exn c fs)) => match C.Φ.xi.flds c with
      | some ns => ofO ((ns.zip fs).lookup f)
      | none => M.bad
    | _ => M.bad : M D) μ) _ := q
    cases h : ρ[i]? with
    | none => simp only [h] at q; exact q.elim
    | some od =>
      cases od with
      | none => simp only [h] at q; exact q.elim
      | some e =>
        cases e with
        | exn k fs =>
          simp only [h] at q
          obtain ⟨v, hσ, h', e2, ev, _, ek, ef, xf⟩ := p.r.at_ i _ h
          cases e2
          subst ek ef ev
          rw [hx.ea] at hσ
          cases hl : C.Φ.xi.flds xh.c with
          | none => rw [hl] at q; exact q.elim
          | some ns =>
            rw [hl] at q
            obtain ⟨y, ey, q⟩ := ResG.ofO q
            exact ⟨ns, y, s, μ, rfl, ey, e1, p.wd, hσ, xf, q⟩
        | _ => simp only [h] at q; exact q.elim
  by_cases hg : ∃ ns y, C.Φ.xi.flds xh.c = some ns ∧ (ns.zip xh.fs).lookup f = some y
  · obtain ⟨ns, y, h1, h2⟩ := hg
    obtain ⟨hcl, Ck, hm, T, hno⟩ := XO.flds _ _ h1
    obtain ⟨j, h3, h4⟩ := lookup_at h2
    have hm : C.X.mg xh.c = some (.ref Ck) := hm
    have ec : cls = .ref Ck := Option.some.inj (hx.em.symm.trans hm)
    subst ec
    have en : ns = xh.ns := Option.some.inj (hcl.symm.trans hx.en)
    refine PE_imp (pe_xf T (hno f (List.mem_of_getElem? h3)) hz hf (pe_var (X := C.X.suite a ((a, oe) :: pn)) hN hv hd hc)) fun σ H Q q => ?_
    obtain ⟨ns', y', s, μ, h1', h2', e1, wd, hσ, xf, q⟩ := key σ H Q q
    rw [h1] at h1'
    cases h1'
    rw [h2] at h2'
    cases h2'
    rcases xf with xf | ⟨dd, fv, vs, ed, hH, r, l⟩
    · rw [en, xf] at h3; simp at h3
    · obtain ⟨v, hv', rv⟩ := r.at_ h4
      refine ⟨.ref a, hσ, rfl, rfl, dd, fv, v, hx.ed.symm.trans ed, by rw [← e1]; exact hH, l j f v (by rw [← en]; exact h3) hv', ?_⟩
      rw [← e1]
      exact q v s [] (Post.scal (Ev.refl s) wd rv)
  · refine pe_no fun σ H Q q => hg ?_
    obtain ⟨ns', y', s, μ, h1', h2', _⟩ := key σ H Q q
    exact ⟨ns', y', h1', h2'⟩
theorem ok_isE (XO : XOk C.K C.X.mg C.cls C.Φ.xi) (hx : XhOk C a cls d xh) (hz : Zc cls d oe) (hf : ∃ vs, oe.data = .fields vs) (hN : C.X.N[i]? = some x) (hv : Vis C.X.env.scope x) (hd : (x == ("__debug__" : Str)) = false) (hc : (x == ("__classdict__" : Str)) = false)
    (hg : Gl C.X "isinstance") (hm : C.X.mg "isinstance" = none) (hgc : Gl C.X c) (hdc : (c == ("__debug__" : Str)) = false) : OkE (C.han a oe pn xh) (.Call (.Name "isinstance" p) [.Name x p1, .Name c p2] [] pos) (evE C.Φ (.isE i c)) := by
  have key : ∀ σ H Q, tD (C.han a oe pn xh) (evE C.Φ (.isE i c)) σ H Q → ∃ b s μ, C.Φ.xi.sub xh.c c = some b ∧ s.H = H ∧ Wd C.K C.w s μ ∧ σ[i]? = some (some (.ref a)) ∧ XFld C.K C.w s xh ∧ ∀ v s' o, Post C.K C.w s s' μ (.bl b) v o → Q v s'.H := by
    rintro σ H Q ⟨s, ρ, own, μ, e1, p, q⟩
    have q : ResG (C.han a oe pn xh) σ ((match ρ[i]? with
    | some (some (.exn k _)) => ofO ((C.Φ.xi.sub k c).map .bl)
    | _ => M.bad : M D) μ) _ := q
    cases h : ρ[i]? with
    | none => simp only [h] at q; exact q.elim
    | some od =>
      cases od with
      | none => simp only [h] at q; exact q.elim
      | some e =>
        cases e with
        | exn k fs =>
          simp only [h] at q
          obtain ⟨v, hσ, h', e2, ev, _, ek, ef, xf⟩ := p.r.at_ i _ h
          cases e2
          subst ek ef ev
          rw [hx.ea] at hσ
          obtain ⟨y, ey, q⟩ := ResG.ofO q
          obtain ⟨b, eb, rfl⟩ := Option.map_eq_some_iff.mp ey
          exact ⟨b, s, μ, eb, e1, p.wd, hσ, xf, q⟩
        | _ => simp only [h] at q; exact q.elim
  cases hs : C.Φ.xi.sub xh.c c with
  | none =>
    refine pe_no fun σ H Q q => ?_
    obtain ⟨b, _, _, h, _⟩ := key σ H Q q
    rw [hs] at h
    cases h
  | some b =>
    obtain ⟨Ck, Cc, m1, m2, _, ko, EC⟩ := XO.sub _ _ _ hs
    have m1 : C.X.mg xh.c = some (.ref Ck) := m1
    have ec : cls = .ref Ck := Option.some.inj (hx.em.symm.trans m1)
    subst ec
    refine PE_imp (pe_callB (X := C.X.suite a ((a, oe) :: pn)) (call_isX EC hz hf) hg hm PyProof.Rows.boot_isinstance (pa_cons (pe_var (X := C.X.suite a ((a, oe) :: pn)) hN hv hd hc) (pa_cons (pe_glob (X := C.X.suite a ((a, oe) :: pn)) (v := .ref Cc) hgc m2 rfl hdc) pa_nil rfl) rfl) (by decide) (by decide) rfl rfl) fun σ H Q q => ?_
    obtain ⟨b', s, μ, h1, e1, wd, hσ, xf, q⟩ := key σ H Q q
    rw [hs] at h1
    cases h1
    refine ⟨.ref a, hσ, .ref Cc, .ref Cc, b, rfl, fun u h => h, ko, ?_, ?_⟩
    · rcases xf with xf | ⟨dd, fv, vs, ed, hH, _, _⟩
      · exact .inl (hx.eo xf)
      · exact .inr ⟨dd, fv, hx.ed.symm.trans ed, by rw [← e1]; exact hH⟩
    · rw [← e1]
      exact q (.bl b) s [] (Post.scal (Ev.refl s) wd ⟨rfl, rfl⟩)
end
end Vf

/-! VY -/
set_option autoImplicit false
set_option linter.all false
set_option Elab.async false
set_option maxHeartbeats 4000000
set_option maxRecDepth 10000
/-! VY: try. -/
namespace Vf
open PySem PySem.Spec PyProof.Rows L2

section
variable {C : Ctx} {X' : Cx} {s s' : Sx} {ρ : Env} {σ : L2.St} {own : Nat → List Addr} {μ : Sto} {f : Env → M Fl} {D : Ends} {H : Hp}
theorem Pre.reX (hK : X'.K = C.X.K) (hw : X'.w = C.X.w) (p : Pre C s ρ σ own μ) : Pre { C with X := X' } s ρ σ own μ := by
  obtain ⟨r, wd, ev, fr⟩ := p
  refine ⟨?_, ?_, ev, fr⟩
  · show RepS X'.K X'.w C.xh s ρ σ own
    rw [hK, hw]; exact r
  · show Wd X'.K X'.w s μ
    rw [hK, hw]; exact wd
theorem Pre.unX (hK : X'.K = C.X.K) (hw : X'.w = C.X.w) (p : Pre { C with X := X' } s ρ σ own μ) : Pre C s ρ σ own μ := Pre.reX (C := { C with X := X' }) (X' := C.X) hK.symm hw.symm p
theorem tS_reX (hK : X'.K = C.X.K) (hw : X'.w = C.X.w) (hm : X'.mg = C.X.mg) (h : tS C f D σ H) : tS { C with X := X' } f D σ H := by
  obtain ⟨s, ρ, own, μ, e, p, q⟩ := h
  refine ⟨s, ρ, own, μ, e, p.reX hK hw, ?_⟩
  cases ef : f ρ μ with
  | bad => rw [ef] at q; exact q
  | exc c fs μ1 =>
    rw [ef] at q
    intro s' Cl dd ev wd xr
    have wd : Wd X'.K X'.w s' μ1 := wd
    have xr : XRep X'.K X'.w X'.mg C.cls s' c fs Cl dd := xr
    rw [hK, hw] at wd
    rw [hK, hw, hm] at xr
    exact q s' Cl dd ev wd xr
  | ok fl μ1 =>
    rw [ef] at q
    cases fl with
    | nx ρ' => exact fun σ' own' s' p' g => q σ' own' s' (p'.unX hK hw) g
    | brk ρ' => exact fun σ' own' s' p' g => q σ' own' s' (p'.unX hK hw) g
    | cont ρ' => exact fun σ' own' s' p' g => q σ' own' s' (p'.unX hK hw) g
    | rt d => exact fun v s' o po => q v s' o (by
        have po : Post X'.K X'.w C.s0 s' μ1 d v o := po
        rw [hK, hw] at po; exact po)
end
theorem allNb_at : ∀ {ρ : Env} {i : Nat} {d : D}, allNb ρ = true → ρ[i]? = some (some d) → d.nb = true
  | [], _, _, _, h => by simp at h
  | some e :: ρ, 0, d, h, e1 => by
    have h : (e.nb && allNb ρ) = true := h
    have e1 : e = d := by simpa using e1
    subst e1
    exact (Bool.and_eq_true_iff.mp h).1
  | some e :: ρ, i + 1, d, h, e1 => by
    have h : (e.nb && allNb ρ) = true := h
    exact allNb_at (Bool.and_eq_true_iff.mp h).2 (by simpa using e1)
  | none :: ρ, 0, d, h, e1 => by simp at e1
  | none :: ρ, i + 1, d, h, e1 => by
    have h : allNb ρ = true := h
    exact allNb_at h (by simpa using e1)
theorem noEx_at : ∀ {ρ : Env} {i : Nat} {d : D}, noEx ρ = true → ρ[i]? = some (some d) → ∀ c fs, d ≠ .exn c fs
  | [], _, _, _, h => by simp at h
  | none :: ρ, 0, d, h, e1 => by simp at e1
  | none :: ρ, i + 1, d, h, e1 => by
    have h : noEx ρ = true := h
    exact noEx_at h (by simpa using e1)
  | some e :: ρ, j, d, h, e1 => by
    have h2 : noEx ρ = true ∧ (∀ c fs, e ≠ .exn c fs) := by
      cases e with
      | exn c fs => cases h
      | _ => exact ⟨h, fun _ _ z => by cases z⟩
    cases j with
    | zero =>
      have e1 : e = d := by simpa using e1
      subst e1
      exact h2.2
    | succ j => exact noEx_at h2.1 (by simpa using e1)
theorem set_none {α : Type} {ρ : List (Option α)} {i j : Nat} {x : α} (h : (ρ.set i none)[j]? = some (some x)) : j ≠ i ∧ ρ[j]? = some (some x) := by
  by_cases e : j = i
  · subst e
    by_cases hl : j < ρ.length
    · rw [List.getElem?_set_self hl] at h; cases h
    · rw [List.getElem?_eq_none (by rw [List.length_set]; omega)] at h; cases h
  · rw [List.getElem?_set_ne (Ne.symm e)] at h
    exact ⟨e, h⟩
theorem xfld_of {K : PySem.W.Frag} {w : World} {s : Sx} {fv : List (Str × V)} : ∀ {ns : List Str} {fs : List D}, ns.length = fs.length → (∀ (i : Nat) (f : Str) (x : D), ns[i]? = some f → fs[i]? = some x → ∃ v, fv.lookup f = some v ∧ Rep K w s x v []) →
    ∃ vs, RepL K w s fs vs [] ∧ ∀ (i : Nat) (f : Str) (v : V), ns[i]? = some f → vs[i]? = some v → fv.lookup f = some v
  | [], [], _, _ => ⟨[], ⟨rfl, rfl⟩, fun i f v h => by simp at h⟩
  | [], _ :: _, h, _ => by cases h
  | _ :: _, [], h, _ => by cases h
  | n :: ns, x :: fs, h, k => by
    obtain ⟨vs, r, l⟩ := xfld_of (ns := ns) (fs := fs) (by simpa using h) fun i f y h1 h2 => k (i + 1) f y (by simpa using h1) (by simpa using h2)
    obtain ⟨v, hv, rv⟩ := k 0 n x rfl rfl
    refine ⟨v :: vs, RepL.cons rv r, fun i f u h1 h2 => ?_⟩
    cases i with
    | zero =>
      have h1 : n = f := by simpa using h1
      have h2 : v = u := by simpa using h2
      subst h1 h2
      exact hv
    | succ i => exact l i f u (by simpa using h1) (by simpa using h2)
section
variable {C : Ctx} {s1 b₀ : Stmt} {suite : List Stmt} {i : Nat} {c n : Str} {np pos pos' : Pos} {fb fh : Env → M Fl}
theorem ok_try (XO : XOk C.K C.X.mg C.cls C.Φ.xi) (hs : C.X.stack = C.X.env :: C.X.outer) (hf : C.X.env.frame = some C.X.env.locals) (nd : C.X.N.Nodup) (hi : C.X.N[i]? = some n) (hln : C.X.env.kindOf n = some .local)
    (hgc : Gl C.X c) (hdc : (c == ("__debug__" : Str)) = false) {Cc : Addr} (hcm : C.X.mg c = some (.ref Cc)) (tk : Takes C.X C.W) (hxn : C.xh = none)
    (hb : ∀ (W : WX) (pn : List (Addr × Obj)) (xe : Value → Shared → Prop) (s0 : Sx), Takes (C.X.tr pn xe) W → OkS { C with X := C.X.tr pn xe, W := W, s0 := s0 } s1 fb)
    (hh : ∀ (a : Addr) (oe : Obj) (cls : Value) (d : Option Addr) (pn : List (Addr × Obj)) (xh : XH), Zc cls d oe → (∃ vs, oe.data = .fields vs) → XhOk C a cls d xh → OkSs (C.han a oe pn xh) (b₀ :: suite) fh) :
    OkS C (.Try [s1] [.ExceptHandler (some (.Name c np)) (some n) (b₀ :: suite) pos'] [] [] pos) (tryK C.Φ c i fb fh) := by
  refine PS_imp (ps_try_as (X := C.X) (Wout := C.W) (tb := fun W D σ H => ∃ s0, tS { C with W := W, s0 := s0 } fb D σ H) (ts := fun a cls d D σ H => ∃ xh, XhOk C a cls d xh ∧ tS { C with W := fun _ _ _ _ => False, xh := some xh } fh D σ H) hs hf nd hi hln ⟨hgc, hdc, .inl hcm⟩ tk
    (fun W pn xe tkW po => pss_one ⟨fun pins s σ H D I ⟨s0, h⟩ => (hb W pn xe s0 tkW).run pins s σ H D I (tS_reX (C := { C with W := W, s0 := s0 }) (X' := C.X.tr pn xe) rfl rfl rfl h)⟩)
    (fun a oe cls d pn hz hv => ⟨fun pins s σ H D I ⟨xh, hx, h⟩ => (hh a oe cls d pn xh hz hv hx).run pins s σ H D I (tS_reX (C := { C with W := fun _ _ _ _ => False, xh := some xh }) (X' := C.X.suite a ((a, oe) :: pn)) rfl rfl rfl h)⟩)) ?_
  rintro D σ H ⟨s, ρ, own, μ, e1, p, q⟩
  obtain ⟨g, q⟩ := q.guard
  obtain ⟨g1, g2⟩ := Bool.and_eq_true_iff.mp g
  have hl : i < ρ.length := of_decide_eq_true g2
  have at0 : ∀ (j : Nat) (d : Vf.D), ρ[j]? = some (some d) → ∃ v, σ[j]? = some (some v) ∧ Rep C.K C.w s d v [] := fun j d h => by
    obtain ⟨v, hv, r⟩ := p.r.at_ j d h
    have n := allNb_at g1 h
    have r := r.nbR n
    have eo := Rep.nb _ _ _ r n
    rw [eo] at r
    exact ⟨v, hv, r⟩
  refine ⟨s, s, ρ, fun _ => [], μ, e1, ⟨⟨fun j d h => ?_, (fun _ _ z => nomatch z), fun _ => List.nodup_nil, (fun _ _ _ _ z => nomatch z), p.r.len⟩, p.wd, Ev.refl s, fun _ _ z => nomatch z⟩, ?_⟩
  · obtain ⟨v, hv, r⟩ := at0 j d h
    exact ⟨v, hv, RepX.of r⟩
  have q : ResG C σ (match fb ρ μ with
    | .ok fl μ' => .ok fl μ'
    | .bad => .bad
    | .exc k fs μ' => match C.Φ.xi.sub k c with
      | some true => nox (M.bind (fh (ρ.set i (some (.exn k fs)))) (outX i)) μ'
      | some false => .exc k fs μ'
      | none => .bad) (FlP C D s) := q
  have back : ∀ {s' : Sx} {ρ' : Env} {σ' : L2.St} {own' : Nat → List Addr} {μ' : Sto} {W : WX}, Pre { C with W := W, s0 := s } s' ρ' σ' own' μ' → Pre C s' ρ' σ' own' μ' := fun P => ⟨P.r, P.wd, p.ev.trans P.ev, fun i a ha z => P.fr i a ha (p.ev.up a z)⟩
  cases hr : fb ρ μ with
  | bad => rw [hr] at q; exact q.elim
  | ok fl μ1 =>
    rw [hr] at q
    cases fl with
    | nx ρ' => exact fun σ' own' s' P g => q σ' own' s' (back P) g
    | brk ρ' => exact fun σ' own' s' P g => q σ' own' s' (back P) g
    | cont ρ' => exact fun σ' own' s' P g => q σ' own' s' (back P) g
    | rt d => exact fun v s' o po => q v s' o (Post.tr p.ev po)
  | exc k fs μ1 =>
    rw [hr] at q
    intro s' Cl dd ev wd xr
    obtain ⟨Ca, ns, eCl, hm, hcl, hnl, hn0, hn1⟩ := xr
    cases hsub : C.Φ.xi.sub k c with
    | none => simp only [hsub] at q; exact q.elim
    | some b =>
      obtain ⟨Ck, Cc', m1, m2, ex, _, _⟩ := XO.sub _ _ _ hsub
      have eK : Ca = Ck := Value.ref.inj (Option.some.inj (hm.symm.trans m1))
      have eC : Cc = Cc' := Value.ref.inj (Option.some.inj (hcm.symm.trans m2))
      subst eK eC eCl
      cases b with
      | false =>
        simp only [hsub] at q
        exact ⟨false, ex, (fun z => nomatch z), fun _ => q s' _ dd (p.ev.trans ev) wd ⟨Ca, ns, rfl, hm, hcl, hnl, hn0, hn1⟩⟩
      | true =>
        simp only [hsub] at q
        refine ⟨true, ex, fun _ a ha => ⟨⟨a, k, fs, ns, dd⟩, ⟨rfl, rfl, hm, hcl, hn0⟩, s', ρ.set i (some (.exn k fs)), fun _ => [], μ1, rfl, ⟨⟨fun j d h => ?_, (fun _ _ z => nomatch z), fun _ => List.nodup_nil, (fun _ _ _ _ z => nomatch z), by rw [List.length_set, List.length_set]; exact p.r.len⟩, wd, p.ev.trans ev, fun _ _ z => nomatch z⟩, ?_⟩, fun z => nomatch z⟩
        · rcases set_get h with ⟨rfl, rfl, _⟩ | ⟨hne, h⟩
          · refine ⟨.ref a, List.getElem?_set_self (by rw [← p.r.len]; exact hl), ⟨a, k, fs, ns, dd⟩, rfl, rfl, rfl, rfl, rfl, ?_⟩
            by_cases e0 : ns = []
            · exact .inl e0
            · obtain ⟨d, fv, ed, hH, hx⟩ := hn1 e0
              obtain ⟨vs, r, l⟩ := xfld_of hnl hx
              exact .inr ⟨d, fv, vs, ed, hH, r, l⟩
          · obtain ⟨v, hv, r⟩ := at0 j d h
            exact ⟨v, by rw [List.getElem?_set_ne (Ne.symm hne)]; exact hv, RepX.of (ev.rep0 p.wd r)⟩
        · have hfh : ∀ {fl : Fl} {μ2 : Sto}, fh (ρ.set i (some (.exn k fs))) μ1 = .ok fl μ2 → nox (M.bind (fh (ρ.set i (some (.exn k fs)))) (outX i)) μ1 = nox (outX i fl) μ2 := fun h => by
            unfold nox M.bind
            simp only [h]
          have out : ∀ {s2 : Sx} {ρ2 : Env} {σ2 : L2.St} {own2 : Nat → List Addr} {μ2 : Sto}, noEx (ρ2.set i none) = true → Pre { C with W := fun _ _ _ _ => False, xh := some ⟨a, k, fs, ns, dd⟩ } s2 ρ2 σ2 own2 μ2 → Pre C s2 (ρ2.set i none) (σ2.set i none) own2 μ2 := fun {s2 ρ2 σ2 own2 μ2} hn P => by
            refine ⟨⟨fun j d h => ?_, P.r.ow, P.r.nd, P.r.ap, by rw [List.length_set, List.length_set]; exact P.r.len⟩, P.wd, P.ev, P.fr⟩
            have hx := noEx_at hn h
            obtain ⟨hne, h⟩ := set_none h
            obtain ⟨v, hv, r⟩ := P.r.at_ j d h
            exact ⟨v, by rw [List.getElem?_set_ne (Ne.symm hne)]; exact hv, RepX.of (r.rep hx)⟩
          have gg : Go s s' := ev.go p.wd
          cases hr2 : fh (ρ.set i (some (.exn k fs))) μ1 with
          | bad =>
            have z : nox (M.bind (fh (ρ.set i (some (.exn k fs)))) (outX i)) μ1 = .bad := by
              unfold nox M.bind
              simp only [hr2]
            rw [z] at q; exact q.elim
          | exc c2 fs2 μ2 =>
            have z : nox (M.bind (fh (ρ.set i (some (.exn k fs)))) (outX i)) μ1 = .bad := by
              unfold nox M.bind
              simp only [hr2]
            rw [z] at q; exact q.elim
          | ok fl μ2 =>
            rw [hfh hr2] at q
            cases fl with
            | rt d => exact q
            | nx ρ2 =>
              have q : ResG C σ (nox (guard' (noEx (ρ2.set i none)) (M.ret (.nx (ρ2.set i none)))) μ2) (FlP C D s) := q
              cases hn : noEx (ρ2.set i none) with
              | false => rw [hn] at q; exact q.elim
              | true => rw [hn] at q; exact fun σ' own' s2 P g => q (σ'.set i none) own' s2 (out hn P) (gg.trans g)
            | brk ρ2 =>
              have q : ResG C σ (nox (guard' (noEx (ρ2.set i none)) (M.ret (.brk (ρ2.set i none)))) μ2) (FlP C D s) := q
              cases hn : noEx (ρ2.set i none) with
              | false => rw [hn] at q; exact q.elim
              | true => rw [hn] at q; exact fun σ' own' s2 P g => q (σ'.set i none) own' s2 (out hn P) (gg.trans g)
            | cont ρ2 =>
              have q : ResG C σ (nox (guard' (noEx (ρ2.set i none)) (M.ret (.cont (ρ2.set i none)))) μ2) (FlP C D s) := q
              cases hn : noEx (ρ2.set i none) with
              | false => rw [hn] at q; exact q.elim
              | true => rw [hn] at q; exact fun σ' own' s2 P g => q (σ'.set i none) own' s2 (out hn P) (gg.trans g)
end
end Vf

/-! V14 -/
set_option autoImplicit false
set_option linter.all false
set_option Elab.async false
set_option maxHeartbeats 4000000
set_option maxRecDepth 10000
/-! V14: statements of the table. -/
namespace Vf
open PySem PySem.Spec PyProof.Rows L2

abbrev Cls := List (Str × List Str)
def isAug : Bop → Bool
  | .add => true
  | .sub => true
  | _ => false
def isLcE : E → Bool
  | .lc .. => true
  | .lc2 .. => true
  | _ => false
def tNm : T → Option Nat
  | .nm i => some i
  | _ => none
theorem tNm_ok {t : T} {i : Nat} (h : tNm t = some i) : t = .nm i := by
  cases t <;> cases h; rfl
def asSet : Stmt → Option (Expr × Expr)
  | .Assign [tg] e _ => some (tg, e)
  | _ => none
theorem asSet_ok {s : Stmt} {tg e : Expr} (h : asSet s = some (tg, e)) : ∃ pos, s = .Assign [tg] e pos := by
  unfold asSet at h; split at h <;> cases h; exact ⟨_, rfl⟩
def asApp : Stmt → Option (Str × Expr × Bool)
  | .Expr (.Call (.Attribute (.Name x _) m ap) [e] [] cp) _ => if m = ("append" : Str) then some (x, e, ap.endLine == cp.line) else none
  | _ => none
def asAppAt : Stmt → Option (Str × Expr × Expr × Bool)
  | .Expr (.Call (.Attribute (.Subscript (.Name x _) k _) m ap) [e] [] cp) _ => if m = ("append" : Str) then some (x, k, e, ap.endLine == cp.line) else none
  | _ => none
def asPut : Stmt → Option (Str × Expr × Expr)
  | .Assign [.Subscript (.Name x _) k _] e _ => some (x, k, e)
  | _ => none
def asRput : Stmt → Option (Expr × Expr × Expr)
  | .Assign [.Subscript a k _] e _ => some (a, k, e)
  | _ => none
def asRaug : Stmt → Option (Expr × Expr × Operator × Expr)
  | .AugAssign (.Subscript a k _) op e _ => some (a, k, op, e)
  | _ => none
def asRaise : Stmt → Option (Str × List Expr)
  | .Raise (some (.Call (.Name x _) es [] _)) none _ => some (x, es)
  | _ => none
def asBend : Stmt → Option (Str × Str)
  | .Expr (.Call (.Name f _) [.Name x _] [] _) _ => some (f, x)
  | _ => none
def asRetN : Stmt → Option Str
  | .Return (some (.Name x _)) _ => some x
  | _ => none
def asTry : Stmt → Option (Stmt × Str × Str × Stmt × List Stmt)
  | .Try [s1] [.ExceptHandler (some (.Name x _)) (some n) (b :: bs) _] [] [] _ => some (s1, x, n, b, bs)
  | _ => none
theorem asTry_ok {s s1 b : Stmt} {x n : Str} {bs : List Stmt} (h : asTry s = some (s1, x, n, b, bs)) : ∃ p1 p2 pos, s = .Try [s1] [.ExceptHandler (some (.Name x p1)) (some n) (b :: bs) p2] [] [] pos := by
  unfold asTry at h; split at h <;> cases h; exact ⟨_, _, _, rfl⟩
/-- a statement that may stand in a try -/
def isOne : S → Bool
  | .set _ _ e => !isLcE e
  | .expr _ => true
  | .ret _ => true
  | _ => false
/-- name = [..]: the name, its line is the list's -/
def asSetC : Stmt → Option (Str × Bool × Expr)
  | .Assign [.Name y py] (.ListComp e gs scope p) _ => some (y, py.line == p.line && !(scope.names.any fun (n, k) => n == y && (k == .local || k == .cell)), .ListComp e gs scope p)
  | _ => none
theorem asApp_ok {s : Stmt} {x : Str} {e : Expr} {b : Bool} (h : asApp s = some (x, e, b)) : ∃ p1 ap cp pos, s = .Expr (.Call (.Attribute (.Name x p1) "append" ap) [e] [] cp) pos ∧ (ap.endLine == cp.line) = b := by
  unfold asApp at h; split at h
  · split at h
    · rename_i hm; subst hm; cases h; exact ⟨_, _, _, _, rfl, rfl⟩
    · cases h
  · cases h
theorem asAppAt_ok {s : Stmt} {x : Str} {k e : Expr} {b : Bool} (h : asAppAt s = some (x, k, e, b)) : ∃ p1 p2 ap cp pos, s = .Expr (.Call (.Attribute (.Subscript (.Name x p1) k p2) "append" ap) [e] [] cp) pos ∧ (ap.endLine == cp.line) = b := by
  unfold asAppAt at h; split at h
  · split at h
    · rename_i hm; subst hm; cases h; exact ⟨_, _, _, _, _, rfl, rfl⟩
    · cases h
  · cases h
theorem asPut_ok {s : Stmt} {x : Str} {k e : Expr} (h : asPut s = some (x, k, e)) : ∃ p1 p2 pos, s = .Assign [.Subscript (.Name x p1) k p2] e pos := by
  unfold asPut at h; split at h <;> cases h; exact ⟨_, _, _, rfl⟩
theorem asRput_ok {s : Stmt} {a k e : Expr} (h : asRput s = some (a, k, e)) : ∃ p2 pos, s = .Assign [.Subscript a k p2] e pos := by
  unfold asRput at h; split at h <;> cases h; exact ⟨_, _, rfl⟩
theorem asRaug_ok {s : Stmt} {a k e : Expr} {op : Operator} (h : asRaug s = some (a, k, op, e)) : ∃ p2 pos, s = .AugAssign (.Subscript a k p2) op e pos := by
  unfold asRaug at h; split at h <;> cases h; exact ⟨_, _, rfl⟩
theorem asRaise_ok {s : Stmt} {x : Str} {es : List Expr} (h : asRaise s = some (x, es)) : ∃ p1 p2 pos, s = .Raise (some (.Call (.Name x p1) es [] p2)) none pos := by
  unfold asRaise at h; split at h <;> cases h; exact ⟨_, _, _, rfl⟩
theorem asBend_ok {s : Stmt} {f x : Str} (h : asBend s = some (f, x)) : ∃ p1 p2 p3 pos, s = .Expr (.Call (.Name f p1) [.Name x p2] [] p3) pos := by
  unfold asBend at h; split at h <;> cases h; exact ⟨_, _, _, _, rfl⟩
theorem asRetN_ok {s : Stmt} {x : Str} (h : asRetN s = some x) : ∃ p1 pos, s = .Return (some (.Name x p1)) pos := by
  unfold asRetN at h; split at h <;> cases h; exact ⟨_, _, rfl⟩
theorem asSetC_ok {s : Stmt} {y : Str} {b : Bool} {e' : Expr} (h : asSetC s = some (y, b, e')) : ∃ py e gs scope p pos, s = .Assign [.Name y py] (.ListComp e gs scope p) pos ∧ e' = .ListComp e gs scope p ∧ b = (py.line == p.line && !(scope.names.any fun (n, k) => n == y && (k == .local || k == .cell))) := by
  unfold asSetC at h; split at h <;> cases h; exact ⟨_, _, _, _, _, _, rfl, rfl, rfl⟩
section
variable (G : Sig) (L : Cls) (B : Bool)
mutual
def chkS : S → Inf → Stmt → Bool
  | .set fr tg e, t, s => match asSetC s with
    | some (y, b, e') => match tNm tg with
      | some i => b && t.at_ i y && decide (t.sc.names.lookup y = some .local) && !isBrw e && isLcE e && chkE G e t e'
      | none => false
    | none => match asSet s with
      | some (tg', e') => !isBrw e && notComp e' && noSwap tg' e' && notStar tg' && chkT tg t tg' && chkE G e t e'
      | none => false
  | .aug i op e, t, .AugAssign (.Name x _) op' e' _ => isAug op && opB op' op && !isBrw e && t.sto i x && chkE G e t e'
  | .app i e, t, s => match asApp s with
    | some (x, e', b) => b && t.see i x && !isBrw e && notStar e' && chkE G e t e'
    | none => false
  | .appAt i k e, t, s => match asAppAt s with
    | some (x, k', e', b) => b && t.see i x && !isBrw k && !isBrw e && notSlice k' && notStar e' && chkE G k t k' && chkE G e t e'
    | none => false
  | .put i k e, t, s => match asPut s with
    | some (x, k', e') => t.see i x && !isBrw k && !isBrw e && notSlice k' && notComp e' && chkE G k t k' && chkE G e t e'
    | none => false
  | .rput a k e, t, s => match asRput s with
    | some (a', k', e') => !isBrw a && !isBrw k && !isBrw e && notSlice k' && notComp e' && chkE G a t a' && chkE G k t k' && chkE G e t e'
    | none => false
  | .raug a k op e, t, s => match asRaug s with
    | some (a', k', op', e') => isAug op && opB op' op && !isBrw a && !isBrw k && !isBrw e && notSlice k' && chkE G a t a' && chkE G k t k' && chkE G e t e'
    | none => false
  | .expr e, t, .Expr e' _ => !isBrw e && notComp e' && chkE G e t e'
  | .ret e, t, .Return (some e') _ => !isBrw e && chkE G e t e'
  | .retN, _, .Return none _ => true
  | .retMv i, t, s => match asRetN s with
    | some x => t.see i x
    | none => false
  | .ife c a b, t, .If c' a' b' _ => notIf c' && chkE G c t c' && chkSs a t a' && chkSs b t b'
  | .for_ tg it b, t, .For tg' it' b' [] _ => t.calm && notSetI it' && chkI G it t tg' it' && chkT tg t tg' && chkSs b t b'
  | .while_ c b, t, .While c' b' [] _ => t.calm && notIf c' && chkE G c t c' && chkSs b t b'
  | .raise c es, t, s => match asRaise s with
    | some (x, es') => t.calm && decide (x = c) && t.gl x && decide ((L.lookup c).map List.length = some es.length) && chkEs G es t es'
    | none => false
  | .bend i, t, s => match asBend s with
    | some (f, x) => B && t.calm && decide (f = "_law_bend") && t.gl f && t.see i x
    | none => false
  | .nev, _, _ => true
  | .tryS c i s hs, t, st => match asTry st with
    | some (s1, x, n, b, bs) => isOne s && t.calm && decide (x = c) && t.gl x && (L.lookup c).isSome && decide (t.N[i]? = some n) && decide (t.sc.names.lookup n = some .local) && chkS s t s1 && chkSs hs { t with calm := false } (b :: bs)
    | none => false
  | .pass, _, .Pass _ => true
  | .brk, _, .Break _ => true
  | .cont, _, .Continue _ => true
  | _, _, _ => false
def chkSs : List S → Inf → List Stmt → Bool
  | .frz _ :: ss, t, ss' => chkSs ss t ss'
  | [], _, [] => true
  | s :: ss, t, s' :: ss' => chkS s t s' && chkSs ss t ss'
  | _, _, _ => false
end
end

/-! ### raise -/
def tMkX (C : Ctx) (Ca : Addr) (ns : List Str) (fa : Env → M (List D)) : L2.St → Hp → XK → Prop := fun σ H Q => tDA C fa σ H fun vs H1 => (ns = [] → Q (.ref Ca) none H1) ∧ (ns ≠ [] → ∀ d fv, H1 d = none → (∀ (i : Nat) (f : Str) (v : V), ns[i]? = some f → vs[i]? = some v → fv.lookup f = some v) → Q (.ref Ca) (some d) (upd H1 d (.xd fv)))
structure FxS (G : Sig) (L : Cls) (B : Bool) (C : Ctx) (t : Inf) : Prop where
  fx : Fx G C t
  ind : WI C
  po : t.calm = true → PassesOwn (model C.X.prog C.X.w) C.X.A C.X.env C.X.xe
  fr : t.calm = true → C.X.stack = C.X.env :: C.X.outer ∧ C.X.env.frame = some C.X.env.locals
  cl : ∀ c, C.cls c = L.lookup c
  xo : XOk C.K C.X.mg C.cls C.Φ.xi
  rs : t.calm = true → ∀ c ns, L.lookup c = some ns → ns.Nodup ∧ ∃ Ca, C.X.mg c = some (.ref Ca) ∧ ∀ (es : List Expr) (fa : Env → M (List D)) (p pos : Pos), Gl C.X c → es.length = ns.length → es.all notStar = true → OkA C es fa → (∀ ρ μ ds μ', fa ρ μ = .ok ds μ' → ds.length = es.length) → L2.PMk C.X (.Call (.Name c p) es [] pos) (tMkX C Ca ns fa)
  bd : B = true → t.calm = true → ∀ (i : Nat) (x : Str) (p1 p2 p3 pos : Pos), t.see i x = true → t.gl "_law_bend" = true → OkS C (.Expr (.Call (.Name "_law_bend" p1) [.Name x p2] [] p3) pos) (exS C.Φ (.bend i))
theorem lookup_zip : ∀ {ns : List Str} {vs : List V} {i : Nat} {f : Str} {v : V}, ns.Nodup → ns[i]? = some f → vs[i]? = some v → (ns.zip vs).lookup f = some v
  | [], _, _, _, _, _, h, _ => by simp at h
  | n :: ns, [], _, _, _, _, _, h => by simp at h
  | n :: ns, v :: vs, 0, f, x, nd, h1, h2 => by
    simp at h1 h2
    subst h1 h2
    simp [List.lookup]
  | n :: ns, v :: vs, i + 1, f, x, nd, h1, h2 => by
    have nd := List.nodup_cons.mp nd
    have h1 : ns[i]? = some f := by simpa using h1
    have h2 : vs[i]? = some x := by simpa using h2
    have hne : f ≠ n := fun e => nd.1 (by rw [← e]; exact List.mem_of_getElem? h1)
    have e : (f == n) = false := by simpa using hne
    rw [List.zip_cons_cons, List.lookup_cons, e]
    exact lookup_zip nd.2 h1 h2
section
variable {G : Sig} {L : Cls} {B : Bool} {C : Ctx} {t : Inf}
def raiseK (c : Str) (fa : Env → M (List D)) : Env → M Fl := fun ρ => M.bind (fa ρ) fun ds => guard' (D.nbL ds) (M.exc c ds)
theorem ok_raise (F : FxS G L B C t) (hc : t.calm = true) {c : Str} {ns : List Str} {es : List Expr} {fa : Env → M (List D)} {p pos pos2 : Pos} (hL : L.lookup c = some ns) (hg : Gl C.X c) (hl : es.length = ns.length) (hs : es.all notStar = true) (ha : OkA C es fa) (hlen : ∀ ρ μ ds μ', fa ρ μ = .ok ds μ' → ds.length = es.length) :
    OkS C (.Raise (some (.Call (.Name c p) es [] pos)) none pos2) (raiseK c fa) := by
  obtain ⟨nd, Ca, hm, mk⟩ := F.rs hc c ns hL
  refine PS_imp (L2.ps_raise (F.fx.calm hc).1 F.fx.tk (mk es fa p pos hg hl hs ha hlen)) fun Ds σ H ⟨s, ρ, own, μ, e1, p, q⟩ => ⟨s, ρ, own, μ, e1, p, q.bindE.mono fun ds μ1 ⟨he, h1⟩ vs s1 o ev wd r ndo ow => ?_⟩
  obtain ⟨nb, h1⟩ := ResG.guard h1
  have h1 : XRes C σ c ds μ1 := h1
  have e0 := RepL.nb _ _ _ r nb
  subst e0
  have hcl : C.cls c = some ns := by rw [F.cl]; exact hL
  have hnl : ns.length = ds.length := by rw [← hl]; exact (hlen _ _ _ _ he).symm
  have p1 := p.step ev wd
  refine ⟨fun e => ?_, fun hne d fv hd hfv => ?_⟩
  · exact h1 s1 (.ref Ca) none p1.ev wd ⟨Ca, ns, rfl, hm, hcl, hnl, (fun _ => rfl), fun z => absurd e z⟩
  · have et := Ev.tup (s := s1) hd (u := .xd fv)
    refine h1 (s1.tup d (.xd fv)) (.ref Ca) (some d) (p1.ev.trans et) (wd.tup hd) ⟨Ca, ns, rfl, hm, hcl, hnl, (fun z => absurd z hne), fun _ => ⟨d, fv, rfl, upd_same, fun i f x hf hx => ?_⟩⟩
    obtain ⟨v, hv, rv⟩ := r.at_ hx
    exact ⟨v, hfv i f v hf hv, et.rep0 wd rv⟩
/-! ### every statement -/
theorem seq_eq {Φ : Cfg} (s : S) (ss : List S) : exSs Φ (s :: ss) = seqK (exS Φ s) (exSs Φ ss) := rfl
theorem frz_pre {i : Nat} {Φ : Cfg} (s : Sx) (ρ : Env) (σ : L2.St) (own : Nat → List Addr) (μ : Sto) (F : Fl → Sto → Prop) (p : Pre C s ρ σ own μ) (h : ResG C σ (exS Φ (.frz i) ρ μ) F) : ∃ s' ρ' own', s'.H = s.H ∧ Pre C s' ρ' σ own' μ ∧ Go s s' ∧ F (.nx ρ') μ := by
  have h : ResG C σ ((match ρ[i]? with
    | some (some d) => M.ret (.nx (ρ.set i (some d.fz)))
    | _ => M.bad : M Fl) μ) F := h
  cases e : ρ[i]? with
  | none => simp only [e] at h; exact h.elim
  | some od =>
    cases od with
    | none => simp only [e] at h; exact h.elim
    | some d =>
      simp only [e] at h
      obtain ⟨p', g⟩ := p.frz e
      exact ⟨s.less (own i), _, _, rfl, p', g, h.ret⟩
theorem aug_op {op : Bop} {op' : Operator} (h1 : isAug op = true) (h2 : opB op' op = true) : op' = augOp op := by
  cases op <;> first | (cases h1; done) | (cases op' <;> first | rfl | (cases h2; done))
/-- the statement in a try -/
theorem okOne {C : Ctx} {t : Inf} (F : Fx G C t) : ∀ (s : S) (st : Stmt), isOne s = true → chkS G L B s t st = true → OkS C st (exS C.Φ s)
  | .set fr tg e, st, h1, h => by
    replace h : (match asSetC st with
    | some (y, b, e') => match tNm tg with
      | some i => b && t.at_ i y && decide (t.sc.names.lookup y = some .local) && !isBrw e && isLcE e && chkE G e t e'
      | none => false
    | none => match asSet st with
      | some (tg', e') => !isBrw e && notComp e' && noSwap tg' e' && notStar tg' && chkT tg t tg' && chkE G e t e'
      | none => false) = true := h
    have h1 : (!isLcE e) = true := h1
    cases ea : asSetC st with
    | none =>
      rw [ea] at h
      dsimp only at h
      cases es : asSet st with
      | none => rw [es] at h; cases h
      | some z =>
        obtain ⟨tg', e'⟩ := z
        rw [es] at h
        obtain ⟨pos, rfl⟩ := asSet_ok es
        simp only [Bool.and_eq_true, Bool.not_eq_true'] at h
        obtain ⟨⟨⟨⟨⟨h1, h2⟩, h3⟩, h4⟩, h5⟩, h6⟩ := h
        exact ok_set ((okE F e e' h6).val h1) (okT F tg tg' h5) h2 h3 h4
    | some z =>
      obtain ⟨y, b, e'⟩ := z
      rw [ea] at h
      dsimp only at h
      cases en : tNm tg with
      | none => rw [en] at h; cases h
      | some i =>
        rw [en] at h
        simp only [Bool.and_eq_true] at h
        rw [h.1.2] at h1
        cases h1
  | .expr e, st, _, h => by
    cases st with
    | Expr e' p =>
      replace h : (!isBrw e && notComp e' && chkE G e t e') = true := h
      simp only [Bool.and_eq_true, Bool.not_eq_true'] at h
      exact ok_expr ((okE F e e' h.2).val h.1.1) h.1.2
    | _ => cases h
  | .ret e, st, _, h => by
    cases st with
    | Return v p =>
      cases v with
      | some e' =>
        replace h : (!isBrw e && chkE G e t e') = true := h
        simp only [Bool.and_eq_true, Bool.not_eq_true'] at h
        exact ok_ret ((okE F e e' h.2).val h.1)
      | none => cases h
    | _ => cases h
theorem FxS.han {C : Ctx} {t : Inf} (F : FxS G L B C t) {a : Addr} {oe : Obj} {cls : Value} {d : Option Addr} {pn : List (Addr × Obj)} {xh : XH} (hz : Zc cls d oe) (hf : ∃ vs, oe.data = .fields vs) (hx : XhOk C a cls d xh) : FxS G L B (C.han a oe pn xh) { t with calm := false } where
  fx := {
    hN := F.fx.hN, hsc := F.fx.hsc, nd := F.fx.nd, kind := F.fx.kind, fn := F.fx.fn, calm := fun h => (by cases h), hu := F.fx.hu, tk := takes0, blt := F.fx.blt, gls := F.fx.gls, fns := fun h => (by cases h),
    fld := fun _ i x f p1 p2 hs => by
      obtain ⟨a1, a2, a3, a4⟩ := see_ok F.fx hs
      exact ok_fld F.xo hx hz hf a1 a2 a3 a4,
    isE := fun _ i x c p p1 p2 pos hs hg hc => by
      obtain ⟨a1, a2, a3, a4⟩ := see_ok F.fx hs
      exact ok_isE F.xo hx hz hf a1 a2 a3 a4 (gl_ok F.fx hg).1 (bm F.fx (by decide)) (gl_ok F.fx hc).1 (gl_ok F.fx hc).2 }
  ind := fun _ _ _ _ _ h => h
  po := fun h => by cases h
  fr := fun h => by cases h
  cl := F.cl
  xo := F.xo
  rs := fun h => by cases h
  bd := fun _ h => by cases h
mutual
theorem okS {C : Ctx} {t : Inf} (F : FxS G L B C t) : ∀ (s : S) (st : Stmt), chkS G L B s t st = true → OkS C st (exS C.Φ s)
  | .set fr tg e, st, h => by
    replace h : (match asSetC st with
    | some (y, b, e') => match tNm tg with
      | some i => b && t.at_ i y && decide (t.sc.names.lookup y = some .local) && !isBrw e && isLcE e && chkE G e t e'
      | none => false
    | none => match asSet st with
      | some (tg', e') => !isBrw e && notComp e' && noSwap tg' e' && notStar tg' && chkT tg t tg' && chkE G e t e'
      | none => false) = true := h
    cases ea : asSetC st with
    | none =>
      rw [ea] at h
      dsimp only at h
      cases es : asSet st with
      | none => rw [es] at h; cases h
      | some z =>
        obtain ⟨tg', e'⟩ := z
        rw [es] at h
        obtain ⟨pos, rfl⟩ := asSet_ok es
        simp only [Bool.and_eq_true, Bool.not_eq_true'] at h
        obtain ⟨⟨⟨⟨⟨h1, h2⟩, h3⟩, h4⟩, h5⟩, h6⟩ := h
        exact ok_set ((okE F.fx e e' h6).val h1) (okT F.fx tg tg' h5) h2 h3 h4
    | some z =>
      obtain ⟨y, b, e'⟩ := z
      rw [ea] at h
      obtain ⟨py, e1, gs, scope, p, pos, rfl, rfl, eb⟩ := asSetC_ok ea
      dsimp only at h
      cases en : tNm tg with
      | none => rw [en] at h; cases h
      | some i =>
        have et := tNm_ok en
        subst et
        rw [en] at h
        simp only [Bool.and_eq_true, Bool.not_eq_true', decide_eq_true_eq] at h
        obtain ⟨⟨⟨⟨⟨h1, h2⟩, h3⟩, h4⟩, h5⟩, h6⟩ := h
        obtain ⟨hN, _, _⟩ := at_ok F.fx h2
        rw [eb] at h1
        obtain ⟨hl, hs⟩ := Bool.and_eq_true_iff.mp h1
        have hs : (scope.names.any fun (n, k) => n == y && (k == .local || k == .cell)) = false := by simpa using hs
        have hy : C.X.env.scope.names.lookup y = some .local := by rw [F.fx.hsc]; exact h3
        cases e with
        | lc tg it c e =>
          replace h6 : (match asLc (.ListComp e1 gs scope p) with
            | some (e1, tg', it', c', n, scope) => t.calm && decide (n = 0) && !isBrw e && notSetI it' && blkC t.N t.sc scope (ownOf t.N tg.ix) && chkI G it t tg' it' && chkT tg (t.blk scope) tg' && chkC G c (t.blk scope) c' && chkE G e (t.blk scope) e1
            | none => false) = true := h6
          cases ec : asLc (.ListComp e1 gs scope p) with
          | none => rw [ec] at h6; cases h6
          | some z =>
            obtain ⟨e1', tg', it', c', n, scope'⟩ := z
            rw [ec] at h6
            simp only [Bool.and_eq_true, Bool.not_eq_true', decide_eq_true_eq] at h6
            obtain ⟨p', ee⟩ := asLc_ok ec
            cases ee
            obtain ⟨⟨⟨⟨⟨⟨⟨⟨hc, rfl⟩, h2⟩, h3'⟩, h4'⟩, h5'⟩, h6'⟩, h7'⟩, h8'⟩ := h6
            have ok := blkOk_by h4'
            exact ok_setLc (F.fx.calm hc).1 F.fx.nd hN hy F.fx.kind hl hs (okI F.fx it tg' it' h5') (by rw [F.fx.hN, F.fx.hsc]; exact ok) (ownOf_snd _ _) (fun s H a cl fp => okT (F.fx.blk hc ok.kind s H a cl fp) tg tg' h6') (fun s H a cl fp => okC (F.fx.blk hc ok.kind s H a cl fp) c c' h7') (fun s H a cl fp => (okE (F.fx.blk hc ok.kind s H a cl fp) e _ h8').val h2) h3'
        | lc2 tg it tg2 it2 c e =>
          replace h6 : (match asLc2 (.ListComp e1 gs scope p) with
            | some (e1, tg', it', n, tg2', it2', c', n2, scope) => t.calm && decide (n = 0) && decide (n2 = 0) && !isBrw e && notSetI it' && notSetI it2' && blkC t.N t.sc scope (ownOf t.N (tg.ix ++ tg2.ix)) && chkI G it t tg' it' && chkT tg (t.blk scope) tg'
                && chkI G it2 (t.blk scope) tg2' it2' && chkT tg2 (t.blk scope) tg2' && chkC G c (t.blk scope) c' && chkE G e (t.blk scope) e1
            | none => false) = true := h6
          cases ec : asLc2 (.ListComp e1 gs scope p) with
          | none => rw [ec] at h6; cases h6
          | some z =>
            obtain ⟨e1', tg', it', n, tg2', it2', c', n2, scope'⟩ := z
            rw [ec] at h6
            simp only [Bool.and_eq_true, Bool.not_eq_true', decide_eq_true_eq] at h6
            obtain ⟨p', ee⟩ := asLc2_ok ec
            cases ee
            obtain ⟨⟨⟨⟨⟨⟨⟨⟨⟨⟨⟨⟨hc, rfl⟩, rfl⟩, h2⟩, h3'⟩, h3''⟩, h4'⟩, h5'⟩, h6'⟩, h7'⟩, h8'⟩, h9'⟩, h10'⟩ := h6
            have ok := blkOk_by h4'
            exact ok_setLc2 (F.fx.calm hc).1 F.fx.nd hN hy F.fx.kind hl hs (okI F.fx it tg' it' h5') (by rw [F.fx.hN, F.fx.hsc]; exact ok) (ownOf_snd _ _) (fun s H a cl fp => okT (F.fx.blk hc ok.kind s H a cl fp) tg tg' h6') (fun s H a cl fp => okI (F.fx.blk hc ok.kind s H a cl fp) it2 tg2' it2' h7') (fun s H a cl fp => okT (F.fx.blk hc ok.kind s H a cl fp) tg2 tg2' h8') (fun s H a cl fp => okC (F.fx.blk hc ok.kind s H a cl fp) c c' h9') (fun s H a cl fp => (okE (F.fx.blk hc ok.kind s H a cl fp) e _ h10').val h2) h3' h3''
        | _ => cases h5
  | .aug i op e, st, h => by
    cases st with
    | AugAssign tg op' e' p =>
      cases tg with
      | Name x p' =>
        replace h : (isAug op && opB op' op && !isBrw e && t.sto i x && chkE G e t e') = true := h
        simp only [Bool.and_eq_true, Bool.not_eq_true'] at h
        obtain ⟨⟨⟨⟨h1, h2⟩, h3⟩, h4⟩, h5⟩ := h
        have eo := aug_op h1 h2
        subst eo
        obtain ⟨a, b, c⟩ := sto_ok F.fx h4
        exact ok_aug F.fx.nd a b c ((okE F.fx e e' h5).val h3)
      | _ => cases h
    | _ => cases h
  | .app i e, st, h => by
    replace h : (match asApp st with
    | some (x, e', b) => b && t.see i x && !isBrw e && notStar e' && chkE G e t e'
    | none => false) = true := h
    cases ea : asApp st with
    | none => rw [ea] at h; cases h
    | some z =>
      obtain ⟨x, e', b⟩ := z
      rw [ea] at h
      simp only [Bool.and_eq_true, Bool.not_eq_true'] at h
      obtain ⟨p1, ap, cp, pos, rfl, eb⟩ := asApp_ok ea
      obtain ⟨⟨⟨⟨h1, h2⟩, h3⟩, h4⟩, h5⟩ := h
      obtain ⟨a1, a2, a3, a4⟩ := see_ok F.fx h2
      exact ok_app a1 a2 a3 a4 ((okE F.fx e e' h5).val h3) h4 (eb.trans h1)
  | .appAt i k e, st, h => by
    replace h : (match asAppAt st with
    | some (x, k', e', b) => b && t.see i x && !isBrw k && !isBrw e && notSlice k' && notStar e' && chkE G k t k' && chkE G e t e'
    | none => false) = true := h
    cases ea : asAppAt st with
    | none => rw [ea] at h; cases h
    | some z =>
      obtain ⟨x, k', e', b⟩ := z
      rw [ea] at h
      simp only [Bool.and_eq_true, Bool.not_eq_true'] at h
      obtain ⟨p1, p2, ap, cp, pos, rfl, eb⟩ := asAppAt_ok ea
      obtain ⟨⟨⟨⟨⟨⟨⟨h1, h2⟩, h3⟩, h4⟩, h5⟩, h6⟩, h7⟩, h8⟩ := h
      obtain ⟨a1, a2, a3, a4⟩ := see_ok F.fx h2
      exact ok_appAt F.fx.hu a1 a2 a3 a4 ((okE F.fx k k' h7).val h3) h5 ((okE F.fx e e' h8).val h4) h6 (eb.trans h1)
  | .put i k e, st, h => by
    replace h : (match asPut st with
    | some (x, k', e') => t.see i x && !isBrw k && !isBrw e && notSlice k' && notComp e' && chkE G k t k' && chkE G e t e'
    | none => false) = true := h
    cases ea : asPut st with
    | none => rw [ea] at h; cases h
    | some z =>
      obtain ⟨x, k', e'⟩ := z
      rw [ea] at h
      simp only [Bool.and_eq_true, Bool.not_eq_true'] at h
      obtain ⟨p1, p2, pos, rfl⟩ := asPut_ok ea
      obtain ⟨⟨⟨⟨⟨⟨h2, h3⟩, h4⟩, h5⟩, h6⟩, h7⟩, h8⟩ := h
      obtain ⟨a1, a2, a3, a4⟩ := see_ok F.fx h2
      exact ok_put F.fx.hu a1 a2 a3 a4 ((okE F.fx k k' h7).val h3) h5 ((okE F.fx e e' h8).val h4) h6
  | .rput a k e, st, h => by
    replace h : (match asRput st with
    | some (a', k', e') => !isBrw a && !isBrw k && !isBrw e && notSlice k' && notComp e' && chkE G a t a' && chkE G k t k' && chkE G e t e'
    | none => false) = true := h
    cases ea : asRput st with
    | none => rw [ea] at h; cases h
    | some z =>
      obtain ⟨a', k', e'⟩ := z
      rw [ea] at h
      simp only [Bool.and_eq_true, Bool.not_eq_true'] at h
      obtain ⟨p2, pos, rfl⟩ := asRput_ok ea
      obtain ⟨⟨⟨⟨⟨⟨⟨h2, h3⟩, h4⟩, h5⟩, h6⟩, h7⟩, h8⟩, h9⟩ := h
      exact ok_rput F.fx.hu ((okE F.fx a a' h7).val h2) ((okE F.fx k k' h8).val h3) h5 ((okE F.fx e e' h9).val h4) h6
  | .raug a k op e, st, h => by
    replace h : (match asRaug st with
    | some (a', k', op', e') => isAug op && opB op' op && !isBrw a && !isBrw k && !isBrw e && notSlice k' && chkE G a t a' && chkE G k t k' && chkE G e t e'
    | none => false) = true := h
    cases ea : asRaug st with
    | none => rw [ea] at h; cases h
    | some z =>
      obtain ⟨a', k', op', e'⟩ := z
      rw [ea] at h
      simp only [Bool.and_eq_true, Bool.not_eq_true'] at h
      obtain ⟨p2, pos, rfl⟩ := asRaug_ok ea
      obtain ⟨⟨⟨⟨⟨⟨⟨⟨g1, g2⟩, h2⟩, h3⟩, h4⟩, h5⟩, h7⟩, h8⟩, h9⟩ := h
      have eo := aug_op g1 g2
      subst eo
      exact ok_raug ((okE F.fx a a' h7).val h2) ((okE F.fx k k' h8).val h3) h5 ((okE F.fx e e' h9).val h4)
  | .expr e, st, h => by
    cases st with
    | Expr e' p =>
      replace h : (!isBrw e && notComp e' && chkE G e t e') = true := h
      simp only [Bool.and_eq_true, Bool.not_eq_true'] at h
      exact ok_expr ((okE F.fx e e' h.2).val h.1.1) h.1.2
    | _ => cases h
  | .ret e, st, h => by
    cases st with
    | Return v p =>
      cases v with
      | some e' =>
        replace h : (!isBrw e && chkE G e t e') = true := h
        simp only [Bool.and_eq_true, Bool.not_eq_true'] at h
        exact ok_ret ((okE F.fx e e' h.2).val h.1)
      | none => cases h
    | _ => cases h
  | .retN, st, h => by
    cases st with
    | Return v p =>
      cases v with
      | some e' => cases h
      | none => exact ok_retN
    | _ => cases h
  | .retMv i, st, h => by
    replace h : (match asRetN st with
    | some x => t.see i x
    | none => false) = true := h
    cases ea : asRetN st with
    | none => rw [ea] at h; cases h
    | some x =>
      rw [ea] at h
      obtain ⟨p1, pos, rfl⟩ := asRetN_ok ea
      obtain ⟨a1, a2, a3, a4⟩ := see_ok F.fx h
      exact ok_retMv a1 a2 a3 a4
  | .ife c a b, st, h => by
    cases st with
    | If c' a' b' p =>
      replace h : (notIf c' && chkE G c t c' && chkSs G L B a t a' && chkSs G L B b t b') = true := h
      simp only [Bool.and_eq_true] at h
      exact ok_if ((okE F.fx c c' h.1.1.2).tst h.1.1.1) (okSs F a a' h.1.2) (okSs F b b' h.2)
    | _ => cases h
  | .for_ tg it b, st, h => by
    cases st with
    | For tg' it' b' oe p =>
      cases oe with
      | nil =>
        replace h : (t.calm && notSetI it' && chkI G it t tg' it' && chkT tg t tg' && chkSs G L B b t b') = true := h
        simp only [Bool.and_eq_true] at h
        exact ok_for F.ind (F.po h.1.1.1.1) (F.fx.calm h.1.1.1.1).1 (okI F.fx it tg' it' h.1.1.2) (okT F.fx tg tg' h.1.2) (okSs F b b' h.2) h.1.1.1.2
      | cons _ _ => cases h
    | _ => cases h
  | .while_ c b, st, h => by
    cases st with
    | While c' b' oe p =>
      cases oe with
      | nil =>
        replace h : (t.calm && notIf c' && chkE G c t c' && chkSs G L B b t b') = true := h
        simp only [Bool.and_eq_true] at h
        exact ok_while F.ind (F.po h.1.1.1) ((okE F.fx c c' h.1.2).tst h.1.1.2) (okSs F b b' h.2)
      | cons _ _ => cases h
    | _ => cases h
  | .raise c es, st, h => by
    replace h : (match asRaise st with
    | some (x, es') => t.calm && decide (x = c) && t.gl x && decide ((L.lookup c).map List.length = some es.length) && chkEs G es t es'
    | none => false) = true := h
    cases ea : asRaise st with
    | none => rw [ea] at h; cases h
    | some z =>
      obtain ⟨x, es'⟩ := z
      rw [ea] at h
      simp only [Bool.and_eq_true, decide_eq_true_eq] at h
      obtain ⟨p1, p2, pos, rfl⟩ := asRaise_ok ea
      obtain ⟨⟨⟨⟨hc, rfl⟩, h2⟩, h3⟩, h4⟩ := h
      obtain ⟨ns, hL, hn⟩ := Option.map_eq_some_iff.mp h3
      obtain ⟨hl, hs⟩ := chkEs_ns h4
      exact ok_raise F hc hL (gl_ok F.fx h2).1 (hl.trans hn.symm) hs (okEs F.fx es es' h4) fun ρ μ ds μ' he => (evEs_len he).trans hl.symm
  | .bend i, st, h => by
    replace h : (match asBend st with
    | some (f, x) => B && t.calm && decide (f = "_law_bend") && t.gl f && t.see i x
    | none => false) = true := h
    cases ea : asBend st with
    | none => rw [ea] at h; cases h
    | some z =>
      obtain ⟨f, x⟩ := z
      rw [ea] at h
      simp only [Bool.and_eq_true, decide_eq_true_eq] at h
      obtain ⟨p1, p2, p3, pos, rfl⟩ := asBend_ok ea
      obtain ⟨⟨⟨⟨h1, hc⟩, rfl⟩, h3⟩, h4⟩ := h
      exact F.bd h1 hc i x p1 p2 p3 pos h4 h3
  | .nev, st, h => ⟨fun pins s σ H D I ⟨_, _, _, _, _, _, q⟩ => q.elim⟩
  | .tryS c i s hs, st, h => by
    replace h : (match asTry st with
    | some (s1, x, n, b, bs) => isOne s && t.calm && decide (x = c) && t.gl x && (L.lookup c).isSome && decide (t.N[i]? = some n) && decide (t.sc.names.lookup n = some .local) && chkS G L B s t s1 && chkSs G L B hs { t with calm := false } (b :: bs)
    | none => false) = true := h
    cases ea : asTry st with
    | none => rw [ea] at h; cases h
    | some z =>
      obtain ⟨s1, x, n, b, bs⟩ := z
      rw [ea] at h
      simp only [Bool.and_eq_true, decide_eq_true_eq] at h
      obtain ⟨p1, p2, pos, rfl⟩ := asTry_ok ea
      obtain ⟨⟨⟨⟨⟨⟨⟨⟨h1, hc⟩, rfl⟩, h3⟩, h4⟩, h5⟩, h6⟩, h7⟩, h8⟩ := h
      obtain ⟨ns, hL⟩ := Option.isSome_iff_exists.mp h4
      obtain ⟨_, Ca, hm, _⟩ := F.rs hc _ _ hL
      exact ok_try F.xo (F.fr hc).1 (F.fr hc).2 F.fx.nd (by rw [F.fx.hN]; exact h5) (by show C.X.env.scope.names.lookup n = some .local; rw [F.fx.hsc]; exact h6) (gl_ok F.fx h3).1 (gl_ok F.fx h3).2 hm F.fx.tk (F.fx.calm hc).2
        (fun W pn xe s0 tkW => okOne (C := { C with X := C.X.tr pn xe, W := W, s0 := s0 }) (t := t)
          { hN := F.fx.hN, hsc := F.fx.hsc, nd := F.fx.nd, kind := F.fx.kind, fn := F.fx.fn, calm := F.fx.calm, hu := F.fx.hu, tk := tkW, blt := F.fx.blt, gls := F.fx.gls, fns := F.fx.fns, fld := fun h => absurd (hc.symm.trans h) (by decide), isE := fun h => absurd (hc.symm.trans h) (by decide) } s s1 h1 h7)
        (fun a oe cls d pn xh hz hf hx => okSs (F.han hz hf hx) hs (b :: bs) h8)
  | .frz i, st, h => by cases st <;> cases h
  | .pass, st, h => by
    cases st with
    | Pass p => exact ok_pass
    | _ => cases h
  | .brk, st, h => by
    cases st with
    | Break p => exact ok_break
    | _ => cases h
  | .cont, st, h => by
    cases st with
    | Continue p => exact ok_continue
    | _ => cases h
theorem okSs {C : Ctx} {t : Inf} (F : FxS G L B C t) : ∀ (ss : List S) (sts : List Stmt), chkSs G L B ss t sts = true → OkSs C sts (exSs C.Φ ss)
  | [], [], _ => ok_ssnil
  | [], _ :: _, h => by cases h
  | s :: ss, sts, h => by
    by_cases hf : ∃ i, s = .frz i
    · obtain ⟨i, rfl⟩ := hf
      exact ok_sspre (fun s ρ σ own μ F p q => frz_pre s ρ σ own μ F p q) (okSs F ss sts h)
    · cases sts with
      | nil => cases s <;> first | cases h | exact absurd ⟨_, rfl⟩ hf
      | cons st sts =>
        replace h : (chkS G L B s t st && chkSs G L B ss t sts) = true := by
          cases s <;> first | exact h | exact absurd ⟨_, rfl⟩ hf
        obtain ⟨h1, h2⟩ := Bool.and_eq_true_iff.mp h
        exact ok_sscons F.ind (okS F s st h1) (okSs F ss sts h2)
end
end
end Vf

/-! V15 -/
set_option autoImplicit false
set_option linter.all false
set_option Elab.async false
set_option maxHeartbeats 4000000
set_option maxRecDepth 10000
/-! V15: the defs of the table. -/
namespace Vf
open PySem PySem.Spec PyProof.Rows L2

structure FI where
  st : Stmt
  N : List Str
  ps : List Str
  fn : Fn
def scopeC (N P : List Str) (sc : Scope) : Bool :=
  decide (sc.kind = .function) && !sc.isCoroutine && !sc.isGenerator && decide N.Nodup && decide (N.take P.length = P) && P.all (fun x => decide (sc.names.lookup x = some .local) || decide (sc.names.lookup x = some .cell)) && sc.names.all (fun y => !decide (y.2 = .free))
theorem scope_by {N P : List Str} {sc : Scope} (h : scopeC N P sc = true) : FnScope N P sc := by
  unfold scopeC at h
  simp only [Bool.and_eq_true, Bool.not_eq_true', decide_eq_true_eq, List.all_eq_true, Bool.or_eq_true, decide_eq_false_iff_not] at h
  obtain ⟨⟨⟨⟨⟨⟨h1, h2⟩, h3⟩, h4⟩, h5⟩, h6⟩, h7⟩ := h
  exact ⟨h1, h2, h3, h4, h5, h6, h7⟩
def fiOk (G : Sig) (L : Cls) (B : Bool) (fi : FI) : Bool :=
  scopeC fi.N fi.ps (defScope fi.st) && decide (fi.ps.length = fi.fn.np) && decide (fi.N.length = fi.fn.ns) && decide (fi.fn.np ≤ fi.fn.ns) && chkSs G L B fi.fn.body ⟨fi.N, defScope fi.st, none, true⟩ (defBody fi.st)
/-- an exception class that can be made -/
def ExcAb (K : PySem.W.Frag) (mg : Str → Option Value) (c : Str) (ns : List Str) (Ca : Addr) : Prop :=
  ∀ (C : Ctx), C.X.K = K → C.X.mg = mg → C.X.calm = true → Room 2 C.X.A → ∀ (es : List Expr) (fa : Env → M (List D)) (p pos : Pos), Gl C.X c → es.length = ns.length → es.all notStar = true → OkA C es fa → (∀ ρ μ ds μ', fa ρ μ = .ok ds μ' → ds.length = es.length) → L2.PMk C.X (.Call (.Name c p) es [] pos) (tMkX C Ca ns fa)
/-- what a def's body needs at the level k -/
structure Need (G : Sig) (L : Cls) (B : Bool) (P : Program) (w : World) (K : PySem.W.Frag) (mg : Str → Option Value) (base : Heap) (k : Nat) (Φ : Cfg) : Prop where
  blt : ∀ x ∈ bltN, mg x = none
  gls : ∀ x d, Φ.gl x = some d → ∃ v u, mg x = some u ∧ RelV v u ∧ ∀ s, Rep K w s d v []
  fns : ∀ f np, G.lookup f = some np → ∃ fa fd ps, mg f = some (.ref fa) ∧ PySem.W.keepIn K (.ref fa) = true ∧ Binds K fd ps [] ∧
    FnOk P w K mg base (L2.CX P w) (k + 2) fa fd ps (SpF K w mg (fun c => L.lookup c) np (Φ.fn f))
  rs : ∀ c ns, L.lookup c = some ns → ns.Nodup ∧ ∃ Ca, mg c = some (.ref Ca) ∧ ExcAb K mg c ns Ca
  xo : XOk K mg (fun c => L.lookup c) Φ.xi
  bd : B = true → ∀ (C : Ctx) (t : Inf), C.X.prog = P → C.X.w = w → C.X.K = K → C.X.mg = mg → C.X.base = base → Room (k + 2) C.X.A → Fx G C t → ∀ (i : Nat) (x : Str) (p1 p2 p3 pos : Pos), t.see i x = true → t.gl "_law_bend" = true →
    OkS C (.Expr (.Call (.Name "_law_bend" p1) [.Name x p2] [] p3) pos) (exS C.Φ (.bend i))
section
variable {G : Sig} {L : Cls} {B : Bool} {P : Program} {w : World} {K : PySem.W.Frag} {mg : Str → Option Value} {base : Heap} {k : Nat} {Φ : Cfg} {f : Str} {fa : Addr} {fd : FuncData} {fi : FI}
theorem start_len {n : Nat} {ds : List D} (h : ds.length ≤ n) : (Vf.start n ds).length = n := by
  unfold Vf.start
  rw [List.length_append, List.length_map, List.length_replicate]
  omega
theorem step_ok (h : fiOk G L B fi = true) (F : L2.Fun K f f fi.st fa fd) (Nd : Need G L B P w K mg base k Φ) : FnOk P w K mg base (L2.CX P w) (k + 2 + 1) fa fd fi.ps (SpF K w mg (fun c => L.lookup c) fi.fn.np (runFn Φ fi.fn)) := by
  unfold fiOk at h
  simp only [Bool.and_eq_true, decide_eq_true_eq] at h
  obtain ⟨⟨⟨⟨h1, h2⟩, h3⟩, h4⟩, h5⟩ := h
  have sc := scope_by h1
  refine F.okX sc (fun vs H Q E h => h.1.trans h2.symm) fun cdv A outer s H vs Q E hr h => ?_
  obtain ⟨hl, sx, ds, μ, e1, W, r, hF⟩ := h
  refine ⟨tS ⟨cxOf (L2.CX P w) P w K mg base fi.N f (defScope fi.st) fa cdv A outer s H E, (fun c d _ h => E c d h), Φ, sx, (fun c => L.lookup c), none⟩ (exSs Φ fi.fn.body), ?_, ?_⟩
  · refine okSs (G := G) (L := L) (B := B) (t := ⟨fi.N, defScope fi.st, none, true⟩) (C := ⟨cxOf (L2.CX P w) P w K mg base fi.N f (defScope fi.st) fa cdv A outer s H E, (fun c d _ h => E c d h), Φ, sx, (fun c => L.lookup c), none⟩) ?_ fi.fn.body (defBody fi.st) h5
    have fx : Fx G ⟨cxOf (L2.CX P w) P w K mg base fi.N f (defScope fi.st) fa cdv A outer s H E, (fun c d _ h => E c d h), Φ, sx, (fun c => L.lookup c), none⟩ ⟨fi.N, defScope fi.st, none, true⟩ :=
      { hN := rfl, hsc := rfl, nd := sc.nd, kind := sc.kind, fn := fun _ => rfl, calm := fun _ => ⟨rfl, rfl⟩, hu := hr.units, tk := takes_of rfl rfl rfl rfl, blt := Nd.blt, gls := Nd.gls,
        fld := fun h => (by cases h), isE := fun h => (by cases h),
        fns := fun _ f np hf => by
          obtain ⟨fa, fd, ps, a, b, c, d⟩ := Nd.fns f np hf
          exact ⟨k + 2, fa, fd, ps, a, b, c, hr, d⟩ }
    exact { fx := fx, ind := fun _ _ _ _ _ h => h, po := fun _ => passes_of rfl, fr := fun _ => ⟨rfl, rfl⟩, cl := fun _ => rfl, xo := Nd.xo,
            rs := fun _ c ns hL => by
              obtain ⟨a, Ca, b, d⟩ := Nd.rs c ns hL
              exact ⟨a, Ca, b, fun es fa p pos hg hl hs ha hn => d _ rfl rfl rfl (hr.mono (Nat.le_add_left 2 k)) es fa p pos hg hl hs ha hn⟩,
            bd := fun hB _ i x p1 p2 p3 pos hs hg => Nd.bd hB _ _ rfl rfl rfl rfl rfl hr fx i x p1 p2 p3 pos hs hg }
  · have hl2 : ds.length = fi.fn.np := by rw [r.len, hl]
    refine ⟨sx, Vf.start fi.fn.ns ds, fun _ => [], μ, e1, ⟨⟨fun i d hd => ?_, (fun i a z => nomatch z), fun i => List.nodup_nil, (fun i j a _ z => nomatch z), ?_⟩, W, Ev.refl sx, (fun i a z => nomatch z)⟩, ?_⟩
    · unfold Vf.start at hd
      by_cases hi : i < ds.length
      · rw [List.getElem?_append_left (by rw [List.length_map]; exact hi), List.getElem?_map] at hd
        obtain ⟨d', hd', e⟩ := Option.map_eq_some_iff.mp hd
        cases e
        obtain ⟨v, hv, rv⟩ := r.at_ hd'
        refine ⟨v, ?_, RepX.of rv⟩
        unfold L2.start
        rw [List.getElem?_append_left (by rw [List.length_map]; exact (List.getElem?_eq_some_iff.mp hv).1), List.getElem?_map, hv]
        rfl
      · rw [List.getElem?_append_right (by rw [List.length_map]; omega)] at hd
        have := List.mem_of_getElem? hd
        rw [List.mem_replicate] at this
        cases this.2
    · rw [start_len (by rw [hl2]; exact h4)]
      unfold L2.start
      rw [List.length_append, List.length_map, List.length_replicate, h3, hl]
      omega
    · have hF : ResF K w mg (fun c => L.lookup c) sx Q E (guard' (decide (ds.length = fi.fn.np)) (M.bind (exSs Φ fi.fn.body (Vf.start fi.fn.ns ds)) endFl) μ) := hF
      rw [hl2, decide_eq_true rfl] at hF
      have hF : ResF K w mg (fun c => L.lookup c) sx Q E (M.bind (exSs Φ fi.fn.body (Vf.start fi.fn.ns ds)) endFl μ) := hF
      unfold M.bind at hF
      show ResG _ _ (exSs Φ fi.fn.body (Vf.start fi.fn.ns ds) μ) _
      cases hx : exSs Φ fi.fn.body (Vf.start fi.fn.ns ds) μ with
      | ok fl μ1 =>
        rw [hx] at hF
        cases fl with
        | nx ρ' => exact fun σ' own' s' p' g' => hF .non s' [] (Post.scal p'.ev p'.wd ⟨rfl, rfl⟩)
        | rt d => exact fun v s' o po => hF v s' o po
        | brk _ => exact hF.elim
        | cont _ => exact hF.elim
      | exc c fs μ1 =>
        rw [hx] at hF
        exact fun s' Cl dd e' W' X' => hF s' Cl dd e' W' X'
      | bad =>
        rw [hx] at hF
        exact hF.elim
theorem bad_ok {np : Nat} {ps : List Str} (h : ps.length = np) : FnOk P w K mg base (L2.CX P w) 2 fa fd ps (SpF K w mg (fun c => L.lookup c) np (fun _ => M.bad)) :=
  ⟨fun vs H Q E q => q.1.trans h.symm, fun A outer s H args us vs Q E _ _ _ _ q => by
    obtain ⟨_, _, _, _, _, _, _, z⟩ := q
    exact z.elim⟩
end
/-! ### the whole table -/
structure Rows (G : Sig) (L : Cls) (B : Bool) (T1 : List (Str × FI)) (p : Prog) (P : Program) (w : World) (K : PySem.W.Frag) (mg : Str → Option Value) (base : Heap) : Prop where
  tab : ∀ f, p.tab.lookup f = (T1.lookup f).map FI.fn
  ok : ∀ f fi, T1.lookup f = some fi → fiOk G L B fi = true
  sig : ∀ f np, G.lookup f = some np → (p.prim.lookup f = none ∧ ∃ fi, T1.lookup f = some fi ∧ fi.fn.np = np) ∨ ∃ g, p.prim.lookup f = some g
  at_ : ∀ f fi, T1.lookup f = some fi → ∃ fa fd, mg f = some (.ref fa) ∧ L2.Fun K f f fi.st fa fd ∧ Binds K fd fi.ps []
  blt : ∀ x ∈ bltN, mg x = none
  gls : ∀ x d, p.gl.lookup x = some d → ∃ v u, mg x = some u ∧ RelV v u ∧ ∀ s, Rep K w s d v []
  rs : ∀ c ns, L.lookup c = some ns → ns.Nodup ∧ ∃ Ca, mg c = some (.ref Ca) ∧ ExcAb K mg c ns Ca
  xo : XOk K mg (fun c => L.lookup c) p.xi
  bd : B = true → ∀ k Φ (C : Ctx) (t : Inf), C.Φ = Φ → C.X.prog = P → C.X.w = w → C.X.K = K → C.X.mg = mg → C.X.base = base → Room (k + 2) C.X.A → Fx G C t → ∀ (i : Nat) (x : Str) (p1 p2 p3 pos : Pos), t.see i x = true → t.gl "_law_bend" = true →
    OkS C (.Expr (.Call (.Name "_law_bend" p1) [.Name x p2] [] p3) pos) (exS C.Φ (.bend i))
  prim : ∀ f np g, G.lookup f = some np → p.prim.lookup f = some g → ∃ fa fd ps, mg f = some (.ref fa) ∧ PySem.W.keepIn K (.ref fa) = true ∧ Binds K fd ps [] ∧ ps.length = np ∧
    ∀ k Φ, Need G L B P w K mg base k Φ → FnOk P w K mg base (L2.CX P w) (k + 2 + 1) fa fd ps (SpF K w mg (fun c => L.lookup c) np (g Φ))
section
variable {G : Sig} {L : Cls} {B : Bool} {T1 : List (Str × FI)} {p : Prog} {P : Program} {w : World} {K : PySem.W.Frag} {mg : Str → Option Value} {base : Heap}
theorem Rows.need (R : Rows G L B T1 p P w K mg base) {k : Nat} (h : ∀ f np, G.lookup f = some np → ∃ fa fd ps, mg f = some (.ref fa) ∧ PySem.W.keepIn K (.ref fa) = true ∧ Binds K fd ps [] ∧
    FnOk P w K mg base (L2.CX P w) (k + 2) fa fd ps (SpF K w mg (fun c => L.lookup c) np (run p k f))) : Need G L B P w K mg base k ⟨run p k, fun x => p.gl.lookup x, p.xi⟩ :=
  ⟨R.blt, R.gls, h, R.rs, R.xo, fun hB C t e1 e2 e3 e4 e5 hr F => R.bd hB k C.Φ C t rfl e1 e2 e3 e4 e5 hr F⟩
theorem Rows.all (R : Rows G L B T1 p P w K mg base) : ∀ (k : Nat) (f : Str) (np : Nat), G.lookup f = some np → ∃ fa fd ps, mg f = some (.ref fa) ∧ PySem.W.keepIn K (.ref fa) = true ∧ Binds K fd ps [] ∧
    FnOk P w K mg base (L2.CX P w) (k + 2) fa fd ps (SpF K w mg (fun c => L.lookup c) np (run p k f))
  | 0, f, np, h => by
    rcases R.sig f np h with ⟨_, fi, h1, h2⟩ | ⟨g, hg⟩
    · obtain ⟨fa, fd, a, b, c⟩ := R.at_ f fi h1
      have ok := R.ok f fi h1
      unfold fiOk at ok
      simp only [Bool.and_eq_true, decide_eq_true_eq] at ok
      exact ⟨fa, fd, fi.ps, a, b.kp, c, bad_ok (ok.1.1.1.2.trans h2)⟩
    · obtain ⟨fa, fd, ps, a, b, c, d, _⟩ := R.prim f np g h hg
      exact ⟨fa, fd, ps, a, b, c, bad_ok d⟩
  | k + 1, f, np, h => by
    have nd := R.need (R.all k)
    rcases R.sig f np h with ⟨hp, fi, h1, h2⟩ | ⟨g, hg⟩
    · obtain ⟨fa, fd, a, b, c⟩ := R.at_ f fi h1
      have z := step_ok (R.ok f fi h1) b nd
      have e : run p (k + 1) f = runFn ⟨run p k, fun x => p.gl.lookup x, p.xi⟩ fi.fn := by
        funext ds
        show (match p.prim.lookup f with
          | some g => g ⟨run p k, fun x => p.gl.lookup x, p.xi⟩ ds
          | none => match p.tab.lookup f with
            | some fn => runFn ⟨run p k, fun x => p.gl.lookup x, p.xi⟩ fn ds
            | none => M.bad) = _
        rw [hp, R.tab, h1]
        rfl
      rw [e, ← h2]
      exact ⟨fa, fd, fi.ps, a, b.kp, c, z⟩
    · obtain ⟨fa, fd, ps, a, b, c, d, q⟩ := R.prim f np g h hg
      have e : run p (k + 1) f = g ⟨run p k, fun x => p.gl.lookup x, p.xi⟩ := by
        funext ds
        show (match p.prim.lookup f with
          | some g => g ⟨run p k, fun x => p.gl.lookup x, p.xi⟩ ds
          | none => _) = _
        rw [hg]
      rw [e]
      exact ⟨fa, fd, ps, a, b, c, q k _ nd⟩
end
end Vf

/-! V16 -/
set_option autoImplicit false
set_option linter.all false
set_option Elab.async false
set_option maxHeartbeats 4000000
set_option maxRecDepth 10000
/-! V16: the law's end. -/
namespace Vf
open PySem PySem.Spec PyProof.Rows L2

/-- the law's promise -/
def spLaw (K : PySem.W.Frag) (n : Nat) : Sp := fun vs H Q _ => ∃ (a : Addr) (ns : List Int), vs = [.ref a] ∧ ns.length ≤ n ∧ SqL K H a (ns.map V.int) ∧ ∀ H', Q (.bl true) H'
/-- a def as the top has written it -/
def DefAt (K : PySem.W.Frag) (f : Str) (st : Stmt) : Prop := ∃ (fa : Addr) (oc : Value) (od : Option Addr) (kV doc pm : Value) (an : Option Addr) (cdv ct : Value) (osl : Array (Option Value)),
  PySem.W.nsIn K mainGlobals f = some (some (.ref fa)) ∧ K.lookup fa = some ⟨oc, od, .func (PySem.W.fnOf f f (defArgs st) (defBody st) (defScope st) .none kV doc pm an cdv ct), osl⟩ ∧ PySem.W.codeIn K cdv f = true ∧ PySem.W.keepIn K (.ref fa) = true
theorem mkDef {K : PySem.W.Frag} {h : Heap} (_ : K.In h) {f : Str} {st : Stmt} {fa : Addr} {oc : Value} {od : Option Addr} {kV doc pm : Value} {an : Option Addr} {cdv ct : Value} {osl : Array (Option Value)}
    (a : PySem.W.nsIn K mainGlobals f = some (some (.ref fa))) (l : K.lookup fa = some ⟨oc, od, .func (PySem.W.fnOf f f (defArgs st) (defBody st) (defScope st) .none kV doc pm an cdv ct), osl⟩) (c : PySem.W.codeIn K cdv f = true) (k : PySem.W.keepIn K (.ref fa) = true) : DefAt K f st :=
  ⟨fa, oc, od, kV, doc, pm, an, cdv, ct, osl, a, l, c, k⟩
/-- how a def binds -/
def BindsAt (f : Str) (st : Stmt) (ps : List Str) : Prop := ∀ (kV doc pm : Value) (an : Option Addr) (cdv ct : Value) (us : List Value), us.length = ps.length → bindArgs (PySem.W.fnOf f f (defArgs st) (defBody st) (defScope st) .none kV doc pm an cdv ct) ⟨us, []⟩ = pure (ps.zip us)
section
variable {G : Sig} {L : Cls} {B : Bool} {T1 : List (Str × FI)} {p : Prog} {P : Program} {w : World} {K : PySem.W.Frag} {mg : Str → Option Value} {base : Heap}
theorem lookup_mem {β : Type} {f : Str} {v : β} : ∀ {l : List (Str × β)}, l.lookup f = some v → (f, v) ∈ l
  | [], h => by cases h
  | (g, u) :: l, h => by
    rw [List.lookup_cons] at h
    by_cases e : (f == g) = true
    · rw [e] at h
      cases h
      have e : f = g := by simpa using e
      rw [e]; exact List.mem_cons_self
    · have e : (f == g) = false := by simpa using e
      rw [e] at h
      exact List.mem_cons_of_mem _ (lookup_mem h)
theorem at_of {h : Heap} (X : K.In h) (N : h.Ns mainGlobals mg) (hd : ∀ q ∈ T1, DefAt K q.1 q.2.st ∧ BindsAt q.1 q.2.st q.2.ps) : ∀ f fi, T1.lookup f = some fi → ∃ fa fd, mg f = some (.ref fa) ∧ L2.Fun K f f fi.st fa fd ∧ Binds K fd fi.ps [] := fun f fi e => by
  obtain ⟨⟨fa, oc, od, kV, doc, pm, an, cdv, ct, osl, a, l, c, k⟩, b⟩ := hd (f, fi) (lookup_mem e)
  have F := fun_mk l c k
  exact ⟨fa, _, PySem.W.mg_of X N a, F, F.binds b⟩
theorem law_ok {k j n : Nat} {fa : Addr} {fd : FuncData} {ps : List Str} (F : FnOk P w K mg base (L2.CX P w) j fa fd ps (SpF K w mg (fun c => L.lookup c) 1 (run p k "law")))
    (hrun : ∀ ns : List Int, ns.length ≤ n → ∃ μ, run p k "law" [.lst false (ns.map .int)] [] = .ok (.bl true) μ) : FnOk P w K mg base (L2.CX P w) j fa fd ps (spLaw K n) :=
  F.imp fun vs H Q E h => by
    obtain ⟨a, ns, rfl, hl, hS, q⟩ := h
    obtain ⟨μ, er⟩ := hrun ns hl
    refine ⟨rfl, ⟨H, fun _ => False, []⟩, [.lst false (ns.map .int)], [], rfl, ⟨fun _ z => z.elim, (fun _ z => nomatch z), List.nodup_nil, rfl, fun n a ds h => by simp at h⟩, RepL.cons ⟨a, ns.map V.int, rfl, ?_, rfl, ints_rep ns⟩ ⟨rfl, rfl⟩, ?_⟩
    · exact hS.imp (fun z => ⟨z, fun z => z⟩) id
    · rw [er]
      intro v s' o po
      rw [po.rep.1]
      exact q _
theorem nox_end {outer : List PySem.Env} {H : Hp} {s : Shared} {e : Value} {s' : Shared} (h : L2.CX P w outer H s (fun _ _ _ => False) e s') : False := by
  obtain ⟨_, _, _, _, _, _, _, _, _, _, _, _, z⟩ := h
  exact z.elim
end
end Vf

/-! V17 -/
set_option autoImplicit false
set_option linter.all false
set_option Elab.async false
set_option maxHeartbeats 4000000
set_option maxRecDepth 10000
/-! V17: exceptions with an own __init__. -/
namespace Vf
open PySem PySem.Spec PyProof.Rows L2

theorem ResG.monoE {α : Type} {C : Ctx} {σ : L2.St} {r : R α} {F F' : α → Sto → Prop} (h : ResG C σ r F) (k : ∀ a μ, r = .ok a μ → F a μ → F' a μ) : ResG C σ r F' := by
  cases r with
  | ok a μ1 => exact k a μ1 rfl h
  | exc c fs μ1 => exact h
  | bad => exact h.elim
theorem lookup_nd {β : Type} {f : Str} {v : β} : ∀ {l : List (Str × β)}, (l.map (·.1)).Nodup → (f, v) ∈ l → l.lookup f = some v
  | [], _, h => by cases h
  | (g, u) :: l, nd, h => by
    rw [List.map_cons] at nd
    have nd := List.nodup_cons.mp nd
    rw [List.lookup_cons]
    rcases List.mem_cons.mp h with h | h
    · cases h; simp
    · have hne : f ≠ g := fun e => nd.1 (by rw [← e]; exact List.mem_map.mpr ⟨_, h, rfl⟩)
      have e : (f == g) = false := by simpa using hne
      rw [e]
      exact lookup_nd nd.2 h
theorem mem_zip : ∀ {ns : List Str} {vs : List V} {i : Nat} {f : Str} {v : V}, ns[i]? = some f → vs[i]? = some v → (f, v) ∈ ns.zip vs
  | [], _, _, _, _, h, _ => by simp at h
  | n :: ns, [], _, _, _, _, h => by simp at h
  | n :: ns, v :: vs, 0, f, x, h1, h2 => by
    simp at h1 h2
    subst h1 h2
    exact List.mem_cons_self
  | n :: ns, v :: vs, i + 1, f, x, h1, h2 => by
    rw [List.zip_cons_cons]
    exact List.mem_cons_of_mem _ (mem_zip (by simpa using h1) (by simpa using h2))
theorem lookup_rev {ns : List Str} {vs : List V} {i : Nat} {f : Str} {v : V} (nd : ns.Nodup) (hl : ns.length = vs.length) (h1 : ns[i]? = some f) (h2 : vs[i]? = some v) : ((ns.zip vs).reverse ++ []).lookup f = some v := by
  rw [List.append_nil]
  refine lookup_nd ?_ (List.mem_reverse.mpr (mem_zip h1 h2))
  rw [List.map_reverse, (List.reverse_perm _).nodup_iff, List.map_fst_zip (by omega)]
  exact nd
def tIn (K : PySem.W.Frag) : Nat → List Str → TS
  | _, [] => tNext
  | k, f :: r => tSeq (tOst K f (tVar 0) (tVar k)) (tIn K (k + 1) r)
theorem tI_more {K : PySem.W.Frag} {C a d : Addr} (T : OexC K C) : ∀ (ns : List Str) (vs : List V) (k : Nat) (D : L2.Ends) (σ : L2.St) (H : Hp) (fs : List (Str × V)), (∀ f ∈ ns, PySem.W.findIn K (.ref C) f = some none) → σ[0]? = some (some (.ref a)) → ns.length = vs.length → (∀ i v, vs[i]? = some v → σ[k + i]? = some (some v)) →
    H a = some (exo a C (some d)) → H d = some (exd d fs) → d ≠ a → fs.length + ns.length ≤ 900 →
    (∀ H', H' a = some (exo a C (some d)) → H' d = some (exd d ((ns.zip vs).reverse ++ fs)) → (∀ b, b ≠ a → b ≠ d → H' b = H b) → D.nx σ H') → tIn K k ns D σ H
  | [], [], k, D, σ, H, fs, _, _, _, _, ha, hd, _, _, q => q H ha hd fun _ _ _ => rfl
  | [], _ :: _, _, _, _, _, _, _, _, h, _, _, _, _, _, _ => by cases h
  | _ :: _, [], _, _, _, _, _, _, _, h, _, _, _, _, _, _ => by cases h
  | f :: ns, v :: vs, k, D, σ, H, fs, hno, h0, hl, hs, ha, hd, hda, hz, q => by
    refine ⟨v, by simpa using hs 0 v rfl, .ref a, h0, a, C, rfl, T, hno f List.mem_cons_self, .inr ⟨d, fs, ha, hd, by simp at hz; omega, ?_⟩⟩
    refine tI_more T ns vs (k + 1) D σ _ ((f, v) :: fs) (fun g hg => hno g (List.mem_cons_of_mem _ hg)) h0 (by simpa using hl) (fun i v hv => ?_) ?_ upd_same hda (by simp at hz ⊢; omega) fun H' h1 h2 h3 => ?_
    · have := hs (i + 1) v (by simpa using hv)
      rwa [show k + (i + 1) = k + 1 + i by omega] at this
    · rw [upd_ne (Ne.symm hda)]; exact ha
    · refine q H' h1 (by rw [h2]; simp) fun b hb1 hb2 => ?_
      rw [h3 b hb1 hb2, upd_ne hb2]
/-- what an own __init__ promises -/
def SpI (K : PySem.W.Frag) (C : Addr) (ns : List Str) : Sp := fun vs H Q _ => ∃ (a : Addr) (ws : List V), vs = .ref a :: ws ∧ ws.length = ns.length ∧ OexC K C ∧ H a = some (exo a C none) ∧
  ∀ dx H', H dx = none → dx ≠ a → H' a = some (exo a C (some dx)) → H' dx = some (exd dx ((ns.zip ws).reverse ++ [])) → (∀ b, b ≠ a → b ≠ dx → H' b = H b) → Q .non H'
def asOst : Stmt → Option (Str × Str × Str)
  | .Assign [.Attribute (.Name o _) f _] (.Name x _) _ => some (o, f, x)
  | _ => none
theorem asOst_ok {s : Stmt} {o f x : Str} (h : asOst s = some (o, f, x)) : ∃ p1 p2 p3 p4, s = .Assign [.Attribute (.Name o p1) f p2] (.Name x p3) p4 := by
  unfold asOst at h; split at h <;> cases h; exact ⟨_, _, _, _, rfl⟩
def iniB (t : Inf) (o : Str) : Nat → List Str → List Stmt → Bool
  | _, [], [] => true
  | k, f :: r, s :: ss => (match asOst s with
    | some (o', f', x) => decide (o' = o) && decide (f' = f) && t.see k x
    | none => false) && iniB t o (k + 1) r ss
  | _, _, _ => false
theorem see_x {X : Cx} {t : Inf} (hN : X.N = t.N) (hsc : X.env.scope = t.sc) {i : Nat} {x : Str} (h : t.see i x = true) : X.N[i]? = some x ∧ Vis X.env.scope x ∧ (x == ("__debug__" : Str)) = false ∧ (x == ("__classdict__" : Str)) = false := by
  unfold Inf.see at h
  obtain ⟨h1, h2⟩ := Bool.and_eq_true_iff.mp h
  unfold Inf.at_ at h1
  simp only [Bool.and_eq_true, Bool.not_eq_true', decide_eq_true_eq] at h1
  refine ⟨by rw [hN]; exact h1.1.1, ?_, h1.1.2, h1.2⟩
  simp only [Bool.or_eq_true, decide_eq_true_eq] at h2
  unfold Vis
  rw [hsc]
  rcases h2 with (h2 | h2) | h2
  · exact .inl h2
  · exact .inr (.inl h2)
  · exact .inr (.inr h2)
theorem ini_ok {X : Cx} {t : Inf} (hN : X.N = t.N) (hsc : X.env.scope = t.sc) {o : Str} (ho : t.see 0 o = true) : ∀ (ns : List Str) (k : Nat) (ss : List Stmt), iniB t o k ns ss = true → PSs X ss (tIn X.K k ns)
  | [], _, [], _ => pss_nil
  | [], _, _ :: _, h => by cases h
  | _ :: _, _, [], h => by cases h
  | f :: ns, k, s :: ss, h => by
    obtain ⟨h1, h2⟩ := Bool.and_eq_true_iff.mp h
    cases e : asOst s with
    | none => rw [e] at h1; cases h1
    | some z =>
      obtain ⟨o', f', x⟩ := z
      rw [e] at h1
      simp only [Bool.and_eq_true, decide_eq_true_eq] at h1
      obtain ⟨⟨rfl, rfl⟩, h3⟩ := h1
      obtain ⟨p1, p2, p3, p4, rfl⟩ := asOst_ok e
      obtain ⟨a1, a2, a3, a4⟩ := see_x hN hsc ho
      obtain ⟨b1, b2, b3, b4⟩ := see_x hN hsc h3
      exact pss_cons (ps_ost (pe_var a1 a2 a3 a4) (pe_var b1 b2 b3 b4)) (ini_ok hN hsc ho ns (k + 1) ss h2)
/-- an own __init__ that sets its fields in order -/
def iniC (N : List Str) (st : Stmt) (ns : List Str) : Bool :=
  scopeC N N (defScope st) && decide (N.length = ns.length + 1) && decide (ns.length ≤ 900) && decide ns.Nodup && (match N with | o :: _ => (⟨N, defScope st, none, true⟩ : Inf).see 0 o && iniB ⟨N, defScope st, none, true⟩ o 1 ns (defBody st) | [] => false)
section
variable {P : Program} {w : World} {K : PySem.W.Frag} {mg : Str → Option Value} {base : Heap}
theorem ini_fn {N ns : List Str} {st : Stmt} {qual : Str} {C fI : Addr} {fd : FuncData} (h : iniC N st ns = true) (hn : ns ≠ []) (F : L2.Fun K "__init__" qual st fI fd) (hno : ∀ f ∈ ns, PySem.W.findIn K (.ref C) f = some none) : FnOk P w K mg base (L2.CX P w) 1 fI fd N (SpI K C ns) := by
  unfold iniC at h
  simp only [Bool.and_eq_true, decide_eq_true_eq] at h
  obtain ⟨⟨⟨⟨h1, h2⟩, h3⟩, h4⟩, h5⟩ := h
  have sc := scope_by h1
  refine F.okX sc (fun vs H Q E ⟨a, ws, e, l, _⟩ => by rw [e, h2, List.length_cons, l]) fun cdv A outer s H vs Q E hr ⟨a, ws, e, l, T, ha, q⟩ => ?_
  cases N with
  | nil => cases h5
  | cons o N =>
    obtain ⟨h6, h7⟩ := Bool.and_eq_true_iff.mp h5
    refine ⟨_, ini_ok (t := ⟨o :: N, defScope st, none, true⟩) rfl rfl h6 ns 1 _ h7, ?_⟩
    subst e
    cases ns with
    | nil => exact absurd rfl hn
    | cons f ns =>
      cases ws with
      | nil => cases l
      | cons v ws =>
        have slot : ∀ i x, (V.ref a :: v :: ws)[i]? = some x → (L2.start (o :: N) (V.ref a :: v :: ws))[i]? = some (some x) := fun i x hx => by
          unfold L2.start
          rw [List.getElem?_append_left (by rw [List.length_map]; exact (List.getElem?_eq_some_iff.mp hx).1), List.getElem?_map, hx]
          rfl
        refine ⟨v, slot 1 v rfl, .ref a, slot 0 _ rfl, a, C, rfl, T, hno f List.mem_cons_self, .inl ⟨ha, fun dx hd hda => ?_⟩⟩
        refine tI_more T ns ws 2 _ _ _ [(f, v)] (fun g hg => hno g (List.mem_cons_of_mem _ hg)) (slot 0 _ rfl) (by simpa using l.symm) (fun i x hx => slot (2 + i) x (by rw [show 2 + i = i + 1 + 1 by omega]; exact hx)) upd_same (by rw [upd_ne hda]; exact upd_same) hda (by simp at h3 ⊢; omega) fun H' g1 g2 g3 => ?_
        refine q dx H' hd hda g1 (by rw [g2]; simp) fun b hb1 hb2 => ?_
        rw [g3 b hb1 hb2, upd_ne hb1, upd_ne hb2]
/-- what the written part says of an exception's class with an own __init__ -/
structure OwnExc (K : PySem.W.Frag) (mg : Str → Option Value) (c : Str) (ns N : List Str) (st : Stmt) (Ca : Addr) : Prop where
  T : OexC K Ca
  m : mg c = some (.ref Ca)
  no : ∀ f ∈ ns, PySem.W.findIn K (.ref Ca) f = some none
  ini : ∃ (fI : Addr) (fd : FuncData) (qual : Str), PySem.W.findIn K (.ref Ca) "__init__" = some (some (.ref fI)) ∧ PySem.W.typeIn K (.ref fI) = some (.type "function") ∧ L2.Fun K "__init__" qual st fI fd ∧ Binds K fd N []
theorem OwnExc.ab {c : Str} {ns N : List Str} {st : Stmt} {Ca : Addr} (O : OwnExc K mg c ns N st Ca) (h : iniC N st ns = true) (hn : ns ≠ []) (hdb : (c == ("__debug__" : Str)) = false) : ExcAb K mg c ns Ca := by
  intro C eK em calm hr es fa p pos hg hl hs ha hlen
  subst eK em
  obtain ⟨fI, fd, qual, i1, i2, F, b⟩ := O.ini
  have hnd : ns.Nodup := by
    unfold iniC at h
    simp only [Bool.and_eq_true, decide_eq_true_eq] at h
    exact h.1.2
  have h9 : ns.length ≤ 900 := by
    unfold iniC at h
    simp only [Bool.and_eq_true, decide_eq_true_eq] at h
    exact h.1.1.2
  cases es with
  | nil =>
    cases ns with
    | nil => exact absurd rfl hn
    | cons => cases hl
  | cons e es =>
    have hs2 : notStar e = true ∧ es.all notStar = true := by rw [List.all_cons] at hs; exact Bool.and_eq_true_iff.mp hs
    have mk := L2.pmk_oex (X := C.X) (CX := L2.CX C.X.prog C.X.w) (p := p) (pos := pos) (ds := []) (dvs := []) O.T i1 i2 (ini_fn (P := C.X.prog) (w := C.X.w) (mg := C.X.mg) (base := C.X.base) h hn F O.no) (k := 1) hr b .nil passL hg O.m ha hdb (notStar_ok hs2.1 _ _) (noStars hs2.2 _ _)
    intro pins s σ H Q I q
    refine mk pins s σ H Q I ?_
    obtain ⟨sx, ρ, own, μ, e1, p1, q⟩ := q
    refine ⟨sx, ρ, own, μ, e1, p1, q.monoE fun ds μ1 he q vs s1 o ev wd r ndo ow => ?_⟩
    obtain ⟨_, q⟩ := q vs s1 o ev wd r ndo ow
    have q := q hn
    have hl1 : vs.length = ns.length := r.len.symm.trans ((hlen _ _ _ _ he).trans hl)
    refine ⟨by omega, fun a ha => ?_⟩
    rw [List.append_nil]
    refine ⟨a, vs, rfl, hl1, O.T, upd_same, fun dx H' hd hda g1 g2 g3 => ⟨rfl, dx, _, g1, g2, ?_, ?_⟩⟩
    · rw [upd_ne hda] at hd; exact hd
    · rw [upd_ne hda] at hd
      have eH : upd (del H' a) dx (.xd ((ns.zip vs).reverse ++ [])) = upd s1.H dx (.xd ((ns.zip vs).reverse ++ [])) := by
        funext b
        by_cases h1 : b = dx
        · subst h1; rw [upd_same, upd_same]
        · rw [upd_ne h1, upd_ne h1]
          by_cases h2 : b = a
          · subst h2; rw [del_same, ha]
          · rw [del_ne h2, g3 b h2 h1, upd_ne h2]
      rw [eH]
      exact q dx _ hd fun i f v h1 h2 => lookup_rev hnd hl1.symm h1 h2
end
end Vf

/-! V18 -/
set_option autoImplicit false
set_option linter.all false
set_option Elab.async false
set_option maxHeartbeats 4000000
set_option maxRecDepth 10000
/-! V18: the whole of the end. -/
namespace Vf
open PySem PySem.Spec PyProof.Rows L2
section
variable {G : Sig} {L : Cls} {B : Bool} {T1 : List (Str × FI)} {p : Prog} {P : Program} {w : World} {K : PySem.W.Frag} {mg : Str → Option Value}
theorem law_end {k n : Nat} {fa : Addr} {fi : FI} {x : Str} (hR : ∀ base, Rows G L B T1 p P w K mg base) (hmg : mg "law" = some (.ref fa)) (hl : T1.lookup ("law" : Str) = some fi) (hb : BindsAt "law" fi.st fi.ps) (hps : fi.ps = [x]) (hnp : fi.fn.np = 1) (hp : p.prim.lookup ("law" : Str) = none)
    (hrun : ∀ ns : List Int, ns.length ≤ n → ∃ μ, run p (k + 1) "law" [.lst false (ns.map .int)] [] = .ok (.bl true) μ) :
    ∃ fd : FuncData, (∀ (s : Shared) (u : Value), BindsTo s fd ⟨[u], []⟩ [(x, u)]) ∧ ∀ base : Heap, K.In base → base.Ns mainGlobals mg → FnOk P w K mg base (L2.CX P w) (k + 2 + 1) fa fd [x] (spLaw K n) := by
  obtain ⟨fa', fd, h1, F, _⟩ := (hR default).at_ "law" fi hl
  have e : fa' = fa := Value.ref.inj (Option.some.inj (h1.symm.trans hmg))
  subst e
  refine ⟨fd, fun s u => ?_, fun base _ _ => ?_⟩
  · obtain ⟨oc, od, kV, doc, pm, an, cdv, ct, osl, rfl, lk, hcd⟩ := F.ex
    have z := hb kV doc pm an cdv ct [u] (by rw [hps]; rfl)
    rw [hps] at z
    exact BindsTo.of_eq z
  · have R := hR base
    have z := step_ok (R.ok "law" fi hl) F (R.need (R.all k))
    have e : run p (k + 1) "law" = runFn ⟨run p k, fun x => p.gl.lookup x, p.xi⟩ fi.fn := by
      funext ds
      show (match p.prim.lookup ("law" : Str) with
        | some g => g ⟨run p k, fun x => p.gl.lookup x, p.xi⟩ ds
        | none => match p.tab.lookup ("law" : Str) with
          | some fn => runFn ⟨run p k, fun x => p.gl.lookup x, p.xi⟩ fn ds
          | none => M.bad) = _
      rw [hp, R.tab, hl]
      rfl
    rw [← e, hnp, hps] at z
    exact law_ok z hrun
theorem bindsAt {f : Str} {st : Stmt} {ps : List Str} (h : BindsAt f st ps) : BindsAt f st ps := h
end
end Vf

/-! V19 -/
set_option autoImplicit false
set_option linter.all false
set_option Elab.async false
set_option maxHeartbeats 4000000
set_option maxRecDepth 10000
/-! V19: what the end wants of the written part. -/
namespace Vf
open PySem PySem.Spec PyProof.Rows L2
section
variable {K : PySem.W.Frag} {w : World} {mg : Str → Option Value} {h : Heap}
/-- is an exception of the class k one of c -/
def SubAt (K : PySem.W.Frag) (mg : Str → Option Value) (k c : Str) (b : Bool) : Prop := ∃ Ck Cc : Addr, mg k = some (.ref Ck) ∧ mg c = some (.ref Cc) ∧ PySem.W.exmOne K (.ref Ck) (.ref Cc) = some b ∧ PySem.W.kitOne K (.ref Ck) (.ref Cc) = some b ∧ ExcC K Ck
theorem mkSub {k c : Str} {b : Bool} {Ck Cc : Addr} (_ : K.In h) (hk : mg k = some (.ref Ck)) (hc : mg c = some (.ref Cc)) (E : ExcC K Ck) (h1 : PySem.W.subIn K (.ref Cc) (.type "BaseException") = some true) (h2' : PySem.W.hasDictIn K Cc = true) (h3 : PySem.W.typeIn K (.ref Cc) = some (.type "type")) (h4 : PySem.W.subIn K (.ref Ck) (.ref Cc) = some b)
    (h5 : ((Value.ref Ck == Value.ref Cc) && !b) = false) : SubAt K mg k c b := by
  have h2 : (PySem.W.clsIn K Cc).isSome = true := by
    obtain ⟨cd, hc, _⟩ := PySem.W.any_some h2'
    rw [hc]; rfl
  have hcl : PySem.W.kitCls K (.ref Ck) (.ref Cc) = some b := by
    show (if ((PySem.W.clsIn K Cc).isSome && PySem.W.typeIn K (.ref Cc) == some (.type "type")) = true then PySem.W.subIn K (.ref Ck) (.ref Cc) else none) = some b
    rw [h2, h3]
    exact h4
  refine ⟨Ck, Cc, hk, hc, ?_, ?_, E⟩
  · unfold PySem.W.exmOne
    rw [h1]
    exact hcl
  · unfold PySem.W.kitOne
    by_cases e : (Value.ref Ck == Value.ref Cc) = true
    · rw [if_pos e]
      rw [e] at h5
      cases b with
      | true => rfl
      | false => cases h5
    · rw [if_neg e]; exact hcl
def FldAt (K : PySem.W.Frag) (mg : Str → Option Value) (k : Str) (ns : List Str) : Prop := ∃ Ck : Addr, mg k = some (.ref Ck) ∧ XfC K Ck ∧ ∀ f ∈ ns, PySem.W.findIn K (.ref Ck) f = some none
theorem xo_of {L : Cls} {subs : List (Str × List (Str × Bool))} (hs : ∀ q ∈ subs, ∀ r ∈ q.2, SubAt K mg q.1 r.1 r.2) (hf : ∀ q ∈ L, FldAt K mg q.1 q.2) :
    XOk K mg (fun c => L.lookup c) ⟨fun c => L.lookup c, fun k c => (subs.lookup k).bind fun r => r.lookup c⟩ where
  sub := fun k c b e => by
    obtain ⟨r, e1, e2⟩ := Option.bind_eq_some_iff.mp e
    exact hs (k, r) (lookup_mem e1) (c, b) (lookup_mem e2)
  flds := fun k ns e => ⟨e, hf (k, ns) (lookup_mem e)⟩
def RsAt (K : PySem.W.Frag) (mg : Str → Option Value) (c : Str) (ns : List Str) : Prop := ns.Nodup ∧ ∃ Ca : Addr, mg c = some (.ref Ca) ∧ ExcAb K mg c ns Ca
def GlAt (K : PySem.W.Frag) (w : World) (mg : Str → Option Value) (x : Str) (d : D) : Prop := ∃ v u, mg x = some u ∧ RelV v u ∧ ∀ s, Rep K w s d v []
theorem glStr {x z : Str} {t : Tok} (e : mg x = some (.str z t)) : GlAt K w mg x (.str z) := ⟨.str z, _, e, ⟨t, rfl⟩, fun _ => ⟨rfl, rfl⟩⟩
theorem glInt {x : Str} {i : Int} {t : Tok} (e : mg x = some (.int i t)) : GlAt K w mg x (.int i) := ⟨.int i, _, e, ⟨t, rfl⟩, fun _ => ⟨rfl, rfl⟩⟩
/-- the rows, from lists of facts -/
theorem rows_of {G : Sig} {L : Cls} {T1 : List (Str × FI)} {tab : Table} {gl : List (Str × D)} {subs : List (Str × List (Str × Bool))} {P : Program} (KX : K.In h) (N : h.Ns mainGlobals mg)
    (htab : tab = T1.map fun q => (q.1, q.2.fn)) (hok : ∀ q ∈ T1, fiOk G L false q.2 = true) (hsig : G = T1.map fun q => (q.1, q.2.fn.np)) (hd : ∀ q ∈ T1, DefAt K q.1 q.2.st ∧ BindsAt q.1 q.2.st q.2.ps)
    (hblt : ∀ x ∈ bltN, mg x = none) (hgl : ∀ q ∈ gl, GlAt K w mg q.1 q.2) (hrs : ∀ q ∈ L, RsAt K mg q.1 q.2) (hs : ∀ q ∈ subs, ∀ r ∈ q.2, SubAt K mg q.1 r.1 r.2) (hf : ∀ q ∈ L, FldAt K mg q.1 q.2) (base : Heap) :
    Rows G L false T1 ⟨tab, [], gl, ⟨fun c => L.lookup c, fun k c => (subs.lookup k).bind fun r => r.lookup c⟩⟩ P w K mg base where
  tab := fun f => by
    subst htab
    show (T1.map fun q => (q.1, q.2.fn)).lookup f = (T1.lookup f).map FI.fn
    clear hok hd hsig
    induction T1 with
    | nil => rfl
    | cons q T1 ih =>
      obtain ⟨g, fi⟩ := q
      rw [List.map_cons, List.lookup_cons, List.lookup_cons]
      cases e : f == g with
      | true => rfl
      | false => exact ih
  ok := fun f fi e => hok (f, fi) (lookup_mem e)
  sig := fun f np e => by
    refine .inl ⟨rfl, ?_⟩
    subst hsig
    have key : ∀ {T : List (Str × FI)}, (T.map fun q => (q.1, q.2.fn.np)).lookup f = some np → ∃ fi, T.lookup f = some fi ∧ fi.fn.np = np := by
      intro T
      induction T with
      | nil => intro h; cases h
      | cons q T ih =>
        obtain ⟨g, fi⟩ := q
        intro h
        rw [List.map_cons, List.lookup_cons] at h
        rw [List.lookup_cons]
        cases e : f == g with
        | true => rw [e] at h; exact ⟨fi, rfl, Option.some.inj h⟩
        | false => rw [e] at h; exact ih h
    exact key e
  at_ := at_of KX N hd
  blt := hblt
  gls := fun x d e => hgl (x, d) (lookup_mem e)
  rs := fun c ns e => hrs (c, ns) (lookup_mem e)
  xo := xo_of hs hf
  bd := fun h => by cases h
  prim := fun f np g _ h => by cases h
theorem mkExcC {c : Str} {D : Addr} (_ : K.In h) (_ : mg c = some (.ref D)) (hg : PySem.W.findIn K (.ref D) "__getattribute__" = some (some (.builtin "BaseException.__getattribute__"))) (hk : PySem.W.findIn K (.ref D) "__getattr__" = some none) (hs : PySem.W.subIn K (.ref D) (.type "BaseException") = some true) (hd : PySem.W.hasDictIn K D = true)
    (ha : PySem.W.findIn K (.ref D) "__class__" = some (some (.builtin "object.__class__"))) (hn : PySem.W.specialIn K (.builtin "object.__class__") "__get__" = some (some (.builtin "getset_descriptor.__get__"))) (ht : PySem.W.takesIn K (.builtin "object.__class__") = some true) (hm : PySem.W.mroIn K D (.type "object") = some true) : ExcC K D := ⟨hg, hk, hs, hd, ha, hn, ht, hm⟩
theorem mkXfC {c : Str} {D : Addr} (_ : K.In h) (_ : mg c = some (.ref D)) (hg : PySem.W.findIn K (.ref D) "__getattribute__" = some (some (.builtin "BaseException.__getattribute__"))) (hk : PySem.W.findIn K (.ref D) "__getattr__" = some none) (hs : PySem.W.subIn K (.ref D) (.type "BaseException") = some true) (hd : PySem.W.hasDictIn K D = true) : XfC K D := ⟨hg, hk, hs, hd⟩
theorem mkNo2 {c f g : Str} {D : Addr} (_ : K.In h) (_ : mg c = some (.ref D)) (h1 : PySem.W.findIn K (.ref D) f = some none) (h2 : PySem.W.findIn K (.ref D) g = some none) : ∀ x ∈ [f, g], PySem.W.findIn K (.ref D) x = some none := List.forall_mem_cons.mpr ⟨h1, List.forall_mem_cons.mpr ⟨h2, fun _ z => by cases z⟩⟩
theorem mkInit {c : Str} {D fI : Addr} (_ : K.In h) (_ : mg c = some (.ref D)) (h : PySem.W.findIn K (.ref D) "__init__" = some (some (.ref fI))) : PySem.W.findIn K (.ref D) "__init__" = some (some (.ref fI)) := h
theorem mkOex {c : Str} {C : Addr} {nm q : Str} {N : Addr} {bs bm : List Value} {sn : List Str} {sub : List Value} {ab : Bool} {col : Option Bool} {dd : Option Addr} {k0 k1 k2 k3 k5 : Option Value} (_ : K.In h) (_ : mg c = some (.ref C))
    (l : K.lookup C = some (excClassObj nm q C N bs bm true sn sub ab col dd k0 k1 k2 k3 k5 "ValueError.__new__")) (r : PySem.HandSPX.refsVE bm = true) (sa : PySem.W.findIn K (.ref C) "__setattr__" = some (some (.builtin "object.__setattr__")))
    (exC : PySem.W.subIn K (.ref C) (.type "BaseException") = some true) (tyC : PySem.W.typeIn K (.ref C) = some (.type "type")) (kC : PySem.W.keepIn K (.ref C) = true) : OexC K C := ⟨⟨nm, q, N, bs, bm, sn, sub, ab, col, dd, k0, k1, k2, k3, k5, l, r⟩, sa, exC, tyC, kC⟩
def clsIni (s : Stmt) : Stmt := match s with
  | .ClassDef _ _ _ body _ _ _ _ _ _ _ => body.getD 0 (.Pass ⟨0, 0, 0, 0⟩)
  | s => s
theorem mkIni {Ca fI : Addr} {qual : Str} {st : Stmt} {N : List Str} {oc : Value} {od : Option Addr} {kV doc pm : Value} {an : Option Addr} {cdv ct : Value} {osl : Array (Option Value)}
    (i1 : PySem.W.findIn K (.ref Ca) "__init__" = some (some (.ref fI))) (i2 : PySem.W.typeIn K (.ref fI) = some (.type "function")) (l : K.lookup fI = some ⟨oc, od, .func (PySem.W.fnOf "__init__" qual (defArgs st) (defBody st) (defScope st) .none kV doc pm an cdv ct), osl⟩) (c : PySem.W.codeIn K cdv qual = true) (k : PySem.W.keepIn K (.ref fI) = true)
    (hb : ∀ (kV doc pm : Value) (an : Option Addr) (cdv ct : Value) (us : List Value), us.length = N.length → bindArgs (PySem.W.fnOf "__init__" qual (defArgs st) (defBody st) (defScope st) .none kV doc pm an cdv ct) ⟨us, []⟩ = pure (N.zip us)) :
    ∃ (fI : Addr) (fd : FuncData) (qual : Str), PySem.W.findIn K (.ref Ca) "__init__" = some (some (.ref fI)) ∧ PySem.W.typeIn K (.ref fI) = some (.type "function") ∧ L2.Fun K "__init__" qual st fI fd ∧ Binds K fd N [] := by
  have F := fun_mk l c k
  exact ⟨fI, _, qual, i1, i2, F, F.binds hb⟩
end
end Vf

/-! V20 -/
set_option autoImplicit false
set_option linter.all false
set_option Elab.async false
set_option maxHeartbeats 4000000
set_option maxRecDepth 10000
/-! V20: dicts of the module. -/
namespace Vf
open PySem PySem.Spec PyProof.Rows L2
def Ents (P : Params) : List DictEntry → List (Key × V) → Prop
  | [], [] => True
  | e :: r, kv :: q => (∃ (z : Str) (t : Tok), kv.1 = .inr z ∧ e.key = .str z t ∧ e.hash = PyData.keyHash P z ∧ RelV kv.2 e.val) ∧ Ents P r q
  | _, _ => False
theorem Ents.nil {P : Params} : Ents P [] [] := trivial
theorem Ents.cons {P : Params} {e : DictEntry} {es : List DictEntry} {z : Str} {t : Tok} {v : V} {q : List (Key × V)} (h1 : e.key = .str z t) (h2 : e.hash = PyData.keyHash P z) (h3 : RelV v e.val) (h : Ents P es q) : Ents P (e :: es) ((.inr z, v) :: q) := ⟨⟨z, t, rfl, h1, h2, h3⟩, h⟩
theorem Ents.lit {P : Params} : ∀ {es : List DictEntry} {kv : List (Key × V)}, Ents P es kv → PySem.W.KeysLit P es
  | [], _, _ => trivial
  | _ :: _, [], h => h.elim
  | e :: r, p :: q, h => by
    obtain ⟨⟨z, t, _, a, b, _⟩, h2⟩ := h
    exact ⟨⟨z, t, a, b⟩, Ents.lit h2⟩
theorem Ents.noRef {P : Params} : ∀ {es : List DictEntry} {kv : List (Key × V)}, Ents P es kv → es.any (·.refKey) = false
  | [], _, _ => rfl
  | _ :: _, [], h => h.elim
  | e :: r, p :: q, h => by
    obtain ⟨⟨z, t, _, a, b, _⟩, h2⟩ := h
    rw [List.any_cons, Ents.noRef h2, Bool.or_false]
    unfold DictEntry.refKey
    rw [a]
theorem Ents.find {P : Params} (z : Str) : ∀ {es : List DictEntry} {kv : List (Key × V)}, Ents P es kv → match valV kv (.inr z : Key) with
    | some v => ∃ e, es.find? (·.key.isStr z) = some e ∧ RelV v e.val
    | none => es.find? (·.key.isStr z) = none
  | [], [], _ => rfl
  | [], _ :: _, h => h.elim
  | _ :: _, [], h => h.elim
  | e :: r, (k, v) :: q, h => by
    obtain ⟨⟨y, t, a, b, c, d⟩, h2⟩ := h
    have ih := Ents.find z h2
    dsimp only at a d
    subst a
    have ek : e.key.isStr z = (y == z) := by rw [b]; rfl
    unfold valV at ih ⊢
    rw [List.find?_cons, List.find?_cons, ek]
    by_cases q1 : y = z
    · subst q1
      simp only [decide_true, beq_self_eq_true]
      exact ⟨e, rfl, d⟩
    · have e1 : (y == z) = false := by simpa using q1
      have e2 : decide ((.inr y : Key) = .inr z) = false := decide_eq_false fun w => q1 (Sum.inr.inj w)
      rw [e1]
      dsimp only
      rw [e2]
      exact ih
theorem glDict {K : PySem.W.Frag} {w : World} {mg : Str → Option Value} {x : Str} {a : Addr} {es : Array DictEntry} {n : Nat} {ks : List Key} {ds : List D} {vs : List V} (e : mg x = some (.ref a)) (hl : K.lookup a = some ⟨.type "dict", none, .dict es n, #[]⟩) (low : (a == sysModules) = false)
    (he : Ents w.params es.toList (ks.zip vs)) (l : ks.length = ds.length) (r : ∀ s, RepL K w s ds vs []) : GlAt K w mg x (.dct false ks ds) := by
  refine ⟨.ref a, _, e, rfl, fun s => ⟨a, vs, rfl, .inr ⟨es, n, ⟨hl, he.lit, low⟩, fun z => ?_⟩, rfl, l, r s⟩⟩
  have f := he.find z
  cases hv : valV (ks.zip vs) (.inr z : Key) with
  | none =>
    rw [hv] at f
    dsimp only at f ⊢
    unfold PySem.W.nsIn
    rw [hl]
    simp only [f, he.noRef]
    rfl
  | some v =>
    rw [hv] at f
    dsimp only at f ⊢
    obtain ⟨e', f, rv⟩ := f
    refine ⟨e'.val, ?_, rv⟩
    unfold PySem.W.nsIn
    rw [hl]
    simp only [f]
section
variable {K : PySem.W.Frag} {w : World} {mg : Str → Option Value} {h : Heap}
theorem glAll {gl : List (Str × D)} (_ : K.In h) (H : ∀ q ∈ gl, GlAt K w mg q.1 q.2) : ∀ q ∈ gl, GlAt K w mg q.1 q.2 := H
theorem subAll {subs : List (Str × List (Str × Bool))} (_ : K.In h) (H : ∀ q ∈ subs, ∀ r ∈ q.2, SubAt K mg q.1 r.1 r.2) : ∀ q ∈ subs, ∀ r ∈ q.2, SubAt K mg q.1 r.1 r.2 := H
theorem fldAll {L : Cls} (_ : K.In h) (H : ∀ q ∈ L, FldAt K mg q.1 q.2) : ∀ q ∈ L, FldAt K mg q.1 q.2 := H
theorem rsAll {L : Cls} (_ : K.In h) (H : ∀ q ∈ L, RsAt K mg q.1 q.2) : ∀ q ∈ L, RsAt K mg q.1 q.2 := H
end
end Vf

set_option maxRecDepth 100000
set_option autoImplicit false
namespace P50
open PySem Vf
def top (i : Nat) : Stmt := PySem.Challenge.pw_parcelways_k50_whole_machines_checked.main.body.getD i (.Pass ⟨0, 0, 0, 0⟩)
/-- product_of(numbers); 0:numbers 1:product 2:number -/
def f_product_of : Fn := ⟨1, 3, [.set true (.nm 1) (.int 1), .for_ (.nm 2) (.seq (.var 0)) [.set true (.nm 1) (.bin .mul (.var 1) (.var 2))], .ret (.var 1)]⟩
def i_product_of : FI := ⟨top 7, [(Str.ofString "numbers"), (Str.ofString "product"), (Str.ofString "number")], [(Str.ofString "numbers")], f_product_of⟩
/-- count_parcels(fields); 0:fields 1:_ 2:n -/
def f_count_parcels : Fn := ⟨1, 3, [.ret (.call (Str.ofString "product_of") [(.lc (.tup [(.nm 1), (.nm 2)]) (.seq (.var 0)) none (.var 2))])]⟩
def i_count_parcels : FI := ⟨top 8, [(Str.ofString "fields"), (Str.ofString "_"), (Str.ofString "n")], [(Str.ofString "fields")], f_count_parcels⟩
/-- all_parcels(fields); 0:fields 1:found 2:_ 3:n 4:parcel 5:w -/
def f_all_parcels : Fn := ⟨1, 6, [.set true (.nm 1) (.lst [(.tup [])]), .for_ (.tup [(.nm 2), (.nm 3)]) (.seq (.var 0)) [.set true (.nm 1) (.lc2 (.nm 4) (.seq (.var 1)) (.nm 5) (.rng1 (.var 3)) none (.bin .add (.var 4) (.tup [(.var 5)])))], .ret (.var 1)]⟩
def i_all_parcels : FI := ⟨top 9, [(Str.ofString "fields"), (Str.ofString "found"), (Str.ofString "_"), (Str.ofString "n"), (Str.ofString "parcel"), (Str.ofString "w")], [(Str.ofString "fields")], f_all_parcels⟩
/-- number_of_parcel(fields, parcel); 0:fields 1:parcel 2:number 3:_ 4:n 5:w -/
def f_number_of_parcel : Fn := ⟨2, 6, [.set true (.nm 2) (.int 0), .for_ (.tup [(.tup [(.nm 3), (.nm 4)]), (.nm 5)]) (.zip (.var 0) (.var 1)) [.set true (.nm 2) (.bin .add (.bin .mul (.var 2) (.var 4)) (.var 5))], .ret (.var 2)]⟩
def i_number_of_parcel : FI := ⟨top 10, [(Str.ofString "fields"), (Str.ofString "parcel"), (Str.ofString "number"), (Str.ofString "_"), (Str.ofString "n"), (Str.ofString "w")], [(Str.ofString "fields"), (Str.ofString "parcel")], f_number_of_parcel⟩
/-- with_worth(parcel, f, w); 0:parcel 1:f 2:w -/
def f_with_worth : Fn := ⟨3, 3, [.ret (.bin .add (.bin .add (.slc (.var 0) none (some (.var 1))) (.tup [(.var 2)])) (.slc (.var 0) (some (.bin .add (.var 1) (.int 1))) none))]⟩
def i_with_worth : FI := ⟨top 11, [(Str.ofString "parcel"), (Str.ofString "f"), (Str.ofString "w")], [(Str.ofString "parcel"), (Str.ofString "f"), (Str.ofString "w")], f_with_worth⟩
/-- is_whole(value); 0:value -/
def f_is_whole : Fn := ⟨1, 1, [.ret (.and (.isi (.var 0) .int) (.not (.isi (.var 0) .bool)))]⟩
def i_is_whole : FI := ⟨top 13, [(Str.ofString "value")], [(Str.ofString "value")], f_is_whole⟩
/-- are_wholes(value); 0:value 1:number -/
def f_are_wholes : Fn := ⟨1, 2, [.ife (.not (.isi (.var 0) .list)) [.ret (.bl false)] [], .ret (.blt .all (.lc (.nm 1) (.seq (.var 0)) none (.call (Str.ofString "is_whole") [(.var 1)])))]⟩
def i_are_wholes : FI := ⟨top 14, [(Str.ofString "value"), (Str.ofString "number")], [(Str.ofString "value")], f_are_wholes⟩
/-- are_between(value, least, most); 0:value 1:least 2:most 3:number -/
def f_are_between : Fn := ⟨3, 4, [.ife (.not (.call (Str.ofString "are_wholes") [(.var 0)])) [.ret (.bl false)] [], .ret (.blt .all (.lc (.nm 3) (.seq (.var 0)) none (.chain .le .le (.var 1) (.var 3) (.var 2))))]⟩
def i_are_between : FI := ⟨top 15, [(Str.ofString "value"), (Str.ofString "least"), (Str.ofString "most"), (Str.ofString "number")], [(Str.ofString "value"), (Str.ofString "least"), (Str.ofString "most")], f_are_between⟩
/-- is_rising(numbers); 0:numbers 1:at -/
def f_is_rising : Fn := ⟨1, 2, [.ret (.blt .all (.lc (.nm 1) (.rng2 (.int 1) (.blt .len (.var 0))) none (.cmp .lt (.idx (.var 0) (.bin .sub (.var 1) (.int 1))) (.idx (.var 0) (.var 1)))))]⟩
def i_is_rising : FI := ⟨top 16, [(Str.ofString "numbers"), (Str.ofString "at")], [(Str.ofString "numbers")], f_is_rising⟩
/-- parts_ahead(policy); 0:policy -/
def f_parts_ahead : Fn := ⟨1, 1, [.ret (.blt .list (.slc (.var 0) (some (.int 1)) (some (.bin .add (.int 1) (.idx (.glob (Str.ofString "PARTS")) (.idx (.var 0) (.int 0)))))))]⟩
def i_parts_ahead : FI := ⟨top 28, [(Str.ofString "policy")], [(Str.ofString "policy")], f_parts_ahead⟩
/-- has_halt(policy); 0:policy 1:part -/
def f_has_halt : Fn := ⟨1, 2, [.ret (.or (.cmp .eq (.idx (.var 0) (.int 0)) (.glob (Str.ofString "HALT"))) (.blt .any (.lc (.nm 1) (.seq (.call (Str.ofString "parts_ahead") [(.var 0)])) none (.call (Str.ofString "has_halt") [(.var 1)]))))]⟩
def i_has_halt : FI := ⟨top 29, [(Str.ofString "policy"), (Str.ofString "part")], [(Str.ofString "policy")], f_has_halt⟩
/-- count_halts(policy); 0:policy 1:part -/
def f_count_halts : Fn := ⟨1, 2, [.ret (.bin .add (.blt .int (.cmp .eq (.idx (.var 0) (.int 0)) (.glob (Str.ofString "HALT")))) (.blt .sum (.lc (.nm 1) (.seq (.call (Str.ofString "parts_ahead") [(.var 0)])) none (.call (Str.ofString "count_halts") [(.var 1)]))))]⟩
def i_count_halts : FI := ⟨top 30, [(Str.ofString "policy"), (Str.ofString "part")], [(Str.ofString "policy")], f_count_halts⟩
/-- pass_table(n); 0:n 1:number -/
def f_pass_table : Fn := ⟨1, 2, [.ret (.lc (.nm 1) (.rng1 (.var 0)) none (.lst [(.var 1)]))]⟩
def i_pass_table : FI := ⟨top 32, [(Str.ofString "n"), (Str.ofString "number")], [(Str.ofString "n")], f_pass_table⟩
/-- drop_table(n); 0:n 1:_ -/
def f_drop_table : Fn := ⟨1, 2, [.ret (.lc (.nm 1) (.rng1 (.var 0)) none (.lst []))]⟩
def i_drop_table : FI := ⟨top 33, [(Str.ofString "n"), (Str.ofString "_")], [(Str.ofString "n")], f_drop_table⟩
/-- copied_table(table); 0:table 1:outs -/
def f_copied_table : Fn := ⟨1, 2, [.ret (.lc (.nm 1) (.seq (.var 0)) none (.blt .list (.var 1)))]⟩
def i_copied_table : FI := ⟨top 34, [(Str.ofString "table"), (Str.ofString "outs")], [(Str.ofString "table")], f_copied_table⟩
/-- joined(one, other); 0:one 1:other 2:out -/
def f_joined : Fn := ⟨2, 3, [.ret (.blt .sorted (.bin .add (.var 0) (.lc (.nm 2) (.seq (.var 1)) (some (.cmp .notIn (.var 2) (.var 0))) (.var 2))))]⟩
def i_joined : FI := ⟨top 35, [(Str.ofString "one"), (Str.ofString "other"), (Str.ofString "out")], [(Str.ofString "one"), (Str.ofString "other")], f_joined⟩
/-- outs_of_numbers(table, numbers); 0:table 1:numbers 2:found 3:number 4:out -/
def f_outs_of_numbers : Fn := ⟨2, 5, [.set false (.nm 2) .dct0, .for_ (.nm 3) (.seq (.var 1)) [.for_ (.nm 4) (.seq (.idx (.var 0) (.var 3))) [.put 2 (.var 4) (.bl true)]], .ret (.blt .sorted (.brw 2))]⟩
def i_outs_of_numbers : FI := ⟨top 36, [(Str.ofString "table"), (Str.ofString "numbers"), (Str.ofString "found"), (Str.ofString "number"), (Str.ofString "out")], [(Str.ofString "table"), (Str.ofString "numbers")], f_outs_of_numbers⟩
/-- table_or(one, other); 0:one 1:other 2:mine 3:theirs -/
def f_table_or : Fn := ⟨2, 4, [.ret (.lc (.tup [(.nm 2), (.nm 3)]) (.zip (.var 0) (.var 1)) none (.call (Str.ofString "joined") [(.var 2), (.var 3)]))]⟩
def i_table_or : FI := ⟨top 37, [(Str.ofString "one"), (Str.ofString "other"), (Str.ofString "mine"), (Str.ofString "theirs")], [(Str.ofString "one"), (Str.ofString "other")], f_table_or⟩
/-- table_then(one, other); 0:one 1:other 2:outs -/
def f_table_then : Fn := ⟨2, 3, [.ret (.lc (.nm 2) (.seq (.var 0)) none (.call (Str.ofString "outs_of_numbers") [(.var 1), (.var 2)]))]⟩
def i_table_then : FI := ⟨top 38, [(Str.ofString "one"), (Str.ofString "other"), (Str.ofString "outs")], [(Str.ofString "one"), (Str.ofString "other")], f_table_then⟩
/-- all_behind(table, number); 0:table 1:number 2:met 3:known 4:at 5:other -/
def f_all_behind : Fn := ⟨2, 6, [.set false (.nm 2) (.lst [(.var 1)]), .set false (.nm 3) (.dct1 (.var 1) (.bl true)), .set true (.nm 4) (.int 0), .while_ (.cmp .lt (.var 4) (.blt .len (.brw 2))) [.for_ (.nm 5) (.seq (.idx (.var 0) (.idx (.brw 2) (.var 4)))) [.ife (.cmp .notIn (.var 5) (.brw 3)) [.put 3 (.var 5) (.bl true), .app 2 (.var 5)] []], .aug 4 .add (.int 1)], .ret (.blt .sorted (.brw 2))]⟩
def i_all_behind : FI := ⟨top 39, [(Str.ofString "table"), (Str.ofString "number"), (Str.ofString "met"), (Str.ofString "known"), (Str.ofString "at"), (Str.ofString "other")], [(Str.ofString "table"), (Str.ofString "number")], f_all_behind⟩
/-- table_again(table); 0:table 1:number -/
def f_table_again : Fn := ⟨1, 2, [.ret (.lc (.nm 1) (.rng1 (.blt .len (.var 0))) none (.call (Str.ofString "all_behind") [(.var 0), (.var 1)]))]⟩
def i_table_again : FI := ⟨top 40, [(Str.ofString "table"), (Str.ofString "number")], [(Str.ofString "table")], f_table_again⟩
/-- table_not(table); 0:table 1:number 2:outs -/
def f_table_not : Fn := ⟨1, 3, [.ret (.lc (.tup [(.nm 1), (.nm 2)]) (.enum (.var 0)) none (.ife (.var 2) (.lst []) (.lst [(.var 1)])))]⟩
def i_table_not : FI := ⟨top 41, [(Str.ofString "table"), (Str.ofString "number"), (Str.ofString "outs")], [(Str.ofString "table")], f_table_not⟩
/-- test_table(fields, f, w); 0:fields 1:f 2:w 3:number 4:parcel -/
def f_test_table : Fn := ⟨3, 5, [.ret (.lc (.tup [(.nm 3), (.nm 4)]) (.enum (.call (Str.ofString "all_parcels") [(.var 0)])) none (.ife (.cmp .eq (.idx (.var 4) (.var 1)) (.var 2)) (.lst [(.var 3)]) (.lst [])))]⟩
def i_test_table : FI := ⟨top 42, [(Str.ofString "fields"), (Str.ofString "f"), (Str.ofString "w"), (Str.ofString "number"), (Str.ofString "parcel")], [(Str.ofString "fields"), (Str.ofString "f"), (Str.ofString "w")], f_test_table⟩
/-- put_table(fields, f, w); 0:fields 1:f 2:w 3:parcel -/
def f_put_table : Fn := ⟨3, 4, [.ret (.lc (.nm 3) (.seq (.call (Str.ofString "all_parcels") [(.var 0)])) none (.lst [(.call (Str.ofString "number_of_parcel") [(.var 0), (.call (Str.ofString "with_worth") [(.var 3), (.var 1), (.var 2)])])]))]⟩
def i_put_table : FI := ⟨top 43, [(Str.ofString "fields"), (Str.ofString "f"), (Str.ofString "w"), (Str.ofString "parcel")], [(Str.ofString "fields"), (Str.ofString "f"), (Str.ofString "w")], f_put_table⟩
/-- table_of_sign(fields, policy); 0:fields 1:policy -/
def f_table_of_sign : Fn := ⟨2, 2, [.ife (.cmp .eq (.idx (.var 1) (.int 0)) (.glob (Str.ofString "DROP"))) [.ret (.call (Str.ofString "drop_table") [(.call (Str.ofString "count_parcels") [(.var 0)])])] [], .ife (.cmp .eq (.idx (.var 1) (.int 0)) (.glob (Str.ofString "PASS"))) [.ret (.call (Str.ofString "pass_table") [(.call (Str.ofString "count_parcels") [(.var 0)])])] [], .ife (.cmp .eq (.idx (.var 1) (.int 0)) (.glob (Str.ofString "TEST"))) [.ret (.call (Str.ofString "test_table") [(.var 0), (.idx (.var 1) (.int 1)), (.idx (.var 1) (.int 2))])] [], .ret (.call (Str.ofString "put_table") [(.var 0), (.idx (.var 1) (.int 1)), (.idx (.var 1) (.int 2))])]⟩
def i_table_of_sign : FI := ⟨top 44, [(Str.ofString "fields"), (Str.ofString "policy")], [(Str.ofString "fields"), (Str.ofString "policy")], f_table_of_sign⟩
/-- told_table(fields, policy); 0:fields 1:policy 2:one 3:other -/
def f_told_table : Fn := ⟨2, 4, [.ife (.cmp .isIn (.idx (.var 1) (.int 0)) (.tup [(.glob (Str.ofString "DROP")), (.glob (Str.ofString "PASS")), (.glob (Str.ofString "TEST")), (.glob (Str.ofString "PUT"))])) [.ret (.call (Str.ofString "table_of_sign") [(.var 0), (.var 1)])] [], .set true (.nm 2) (.call (Str.ofString "told_table") [(.var 0), (.idx (.var 1) (.int 1))]), .ife (.cmp .eq (.idx (.var 1) (.int 0)) (.glob (Str.ofString "NOT"))) [.ret (.call (Str.ofString "table_not") [(.var 2)])] [], .ife (.cmp .eq (.idx (.var 1) (.int 0)) (.glob (Str.ofString "AGAIN"))) [.ret (.call (Str.ofString "table_again") [(.var 2)])] [], .set true (.nm 3) (.call (Str.ofString "told_table") [(.var 0), (.idx (.var 1) (.int 2))]), .ret (.ife (.cmp .eq (.idx (.var 1) (.int 0)) (.glob (Str.ofString "OR"))) (.call (Str.ofString "table_or") [(.var 2), (.var 3)]) (.call (Str.ofString "table_then") [(.var 2), (.var 3)]))]⟩
def i_told_table : FI := ⟨top 45, [(Str.ofString "fields"), (Str.ofString "policy"), (Str.ofString "one"), (Str.ofString "other")], [(Str.ofString "fields"), (Str.ofString "policy")], f_told_table⟩
/-- is_outs(n, value); 0:n 1:value -/
def f_is_outs : Fn := ⟨2, 2, [.ret (.and (.call (Str.ofString "are_between") [(.var 1), (.int 0), (.bin .sub (.var 0) (.int 1))]) (.call (Str.ofString "is_rising") [(.var 1)]))]⟩
def i_is_outs : FI := ⟨top 46, [(Str.ofString "n"), (Str.ofString "value")], [(Str.ofString "n"), (Str.ofString "value")], f_is_outs⟩
/-- is_table(n, value); 0:n 1:value 2:outs -/
def f_is_table : Fn := ⟨2, 3, [.ret (.and (.isi (.var 1) .list) (.and (.cmp .eq (.blt .len (.var 1)) (.var 0)) (.blt .all (.lc (.nm 2) (.seq (.var 1)) none (.call (Str.ofString "is_outs") [(.var 0), (.var 2)])))))]⟩
def i_is_table : FI := ⟨top 47, [(Str.ofString "n"), (Str.ofString "value"), (Str.ofString "outs")], [(Str.ofString "n"), (Str.ofString "value")], f_is_table⟩
/-- count_states(machine); 0:machine -/
def f_count_states : Fn := ⟨1, 1, [.ret (.bin .sub (.blt .len (.idx (.var 0) (.int 0))) (.int 1))]⟩
def i_count_states : FI := ⟨top 50, [(Str.ofString "machine")], [(Str.ofString "machine")], f_count_states⟩
/-- copied_tables(tables); 0:tables 1:table -/
def f_copied_tables : Fn := ⟨1, 2, [.ret (.lc (.nm 1) (.seq (.var 0)) none (.call (Str.ofString "copied_table") [(.var 1)]))]⟩
def i_copied_tables : FI := ⟨top 51, [(Str.ofString "tables"), (Str.ofString "table")], [(Str.ofString "tables")], f_copied_tables⟩
/-- drops(machine, many); 0:machine 1:many 2:_ -/
def f_drops : Fn := ⟨2, 3, [.ret (.lc (.nm 2) (.rng1 (.var 1)) none (.call (Str.ofString "drop_table") [(.blt .len (.idx (.idx (.var 0) (.int 0)) (.int 0)))]))]⟩
def i_drops : FI := ⟨top 52, [(Str.ofString "machine"), (Str.ofString "many"), (Str.ofString "_")], [(Str.ofString "machine"), (Str.ofString "many")], f_drops⟩
/-- machine_of_table(table); 0:table -/
def f_machine_of_table : Fn := ⟨1, 1, [.ret (.tup [(.lst [(.call (Str.ofString "copied_table") [(.var 0)])]), (.lst [(.lst [(.call (Str.ofString "drop_table") [(.blt .len (.var 0))])])])])]⟩
def i_machine_of_table : FI := ⟨top 53, [(Str.ofString "table")], [(Str.ofString "table")], f_machine_of_table⟩
/-- halt_machine(n); 0:n 1:goes -/
def f_halt_machine : Fn := ⟨1, 2, [.set true (.nm 1) (.lst [(.lst [(.call (Str.ofString "drop_table") [(.var 0)]), (.call (Str.ofString "pass_table") [(.var 0)])]), (.lst [(.call (Str.ofString "drop_table") [(.var 0)]), (.call (Str.ofString "drop_table") [(.var 0)])])]), .ret (.tup [(.lst [(.call (Str.ofString "drop_table") [(.var 0)]), (.call (Str.ofString "pass_table") [(.var 0)])]), (.var 1)])]⟩
def i_halt_machine : FI := ⟨top 54, [(Str.ofString "n"), (Str.ofString "goes")], [(Str.ofString "n")], f_halt_machine⟩
/-- rows_behind(one, other); 0:one 1:other 2:many 3:row -/
def f_rows_behind : Fn := ⟨2, 4, [.set true (.nm 2) (.call (Str.ofString "count_states") [(.var 0)]), .ret (.lc (.nm 3) (.seq (.slc (.idx (.var 1) (.int 1)) (some (.int 1)) none)) none (.bin .add (.call (Str.ofString "drops") [(.var 0), (.bin .add (.int 1) (.var 2))]) (.call (Str.ofString "copied_tables") [(.slc (.var 3) (some (.int 1)) none)])))]⟩
def i_rows_behind : FI := ⟨top 55, [(Str.ofString "one"), (Str.ofString "other"), (Str.ofString "many"), (Str.ofString "row")], [(Str.ofString "one"), (Str.ofString "other")], f_rows_behind⟩
/-- machine_or(one, other); 0:one 1:other 2:ends 3:goes 4:row -/
def f_machine_or : Fn := ⟨2, 5, [.set true (.nm 2) (.bin .add (.bin .add (.lst [(.call (Str.ofString "table_or") [(.idx (.idx (.var 0) (.int 0)) (.int 0)), (.idx (.idx (.var 1) (.int 0)) (.int 0))])]) (.call (Str.ofString "copied_tables") [(.slc (.idx (.var 0) (.int 0)) (some (.int 1)) none)])) (.call (Str.ofString "copied_tables") [(.slc (.idx (.var 1) (.int 0)) (some (.int 1)) none)])), .set false (.nm 3) (.lst [(.bin .add (.bin .add (.call (Str.ofString "drops") [(.var 0), (.int 1)]) (.call (Str.ofString "copied_tables") [(.slc (.idx (.idx (.var 0) (.int 1)) (.int 0)) (some (.int 1)) none)])) (.call (Str.ofString "copied_tables") [(.slc (.idx (.idx (.var 1) (.int 1)) (.int 0)) (some (.int 1)) none)]))]), .for_ (.nm 4) (.seq (.slc (.idx (.var 0) (.int 1)) (some (.int 1)) none)) [.app 3 (.bin .add (.call (Str.ofString "copied_tables") [(.var 4)]) (.call (Str.ofString "drops") [(.var 0), (.call (Str.ofString "count_states") [(.var 1)])]))], .frz 3, .ret (.tup [(.var 2), (.bin .add (.var 3) (.call (Str.ofString "rows_behind") [(.var 0), (.var 1)]))])]⟩
def i_machine_or : FI := ⟨top 56, [(Str.ofString "one"), (Str.ofString "other"), (Str.ofString "ends"), (Str.ofString "goes"), (Str.ofString "row")], [(Str.ofString "one"), (Str.ofString "other")], f_machine_or⟩
/-- machine_then(one, other); 0:one 1:other 2:ends 3:table 4:goes 5:row 6:first -/
def f_machine_then : Fn := ⟨2, 7, [.set true (.nm 2) (.bin .add (.lc (.nm 3) (.seq (.idx (.var 0) (.int 0))) none (.call (Str.ofString "table_then") [(.var 3), (.idx (.idx (.var 1) (.int 0)) (.int 0))])) (.call (Str.ofString "copied_tables") [(.slc (.idx (.var 1) (.int 0)) (some (.int 1)) none)])), .set false (.nm 4) (.lst []), .for_ (.tup [(.nm 3), (.nm 5)]) (.zip (.idx (.var 0) (.int 0)) (.idx (.var 0) (.int 1))) [.app 4 (.bin .add (.call (Str.ofString "copied_tables") [(.var 5)]) (.lc (.nm 6) (.seq (.slc (.idx (.idx (.var 1) (.int 1)) (.int 0)) (some (.int 1)) none)) none (.call (Str.ofString "table_then") [(.var 3), (.var 6)])))], .frz 4, .ret (.tup [(.var 2), (.bin .add (.var 4) (.call (Str.ofString "rows_behind") [(.var 0), (.var 1)]))])]⟩
def i_machine_then : FI := ⟨top 57, [(Str.ofString "one"), (Str.ofString "other"), (Str.ofString "ends"), (Str.ofString "table"), (Str.ofString "goes"), (Str.ofString "row"), (Str.ofString "first")], [(Str.ofString "one"), (Str.ofString "other")], f_machine_then⟩
/-- machine_again(machine); 0:machine 1:ends 2:goes 3:again 4:firsts 5:table 6:rows 7:row 8:more 9:own 10:first -/
def f_machine_again : Fn := ⟨1, 11, [.set true (.tup [(.nm 1), (.nm 2)]) (.var 0), .set true (.nm 3) (.call (Str.ofString "table_again") [(.idx (.var 1) (.int 0))]), .set true (.nm 4) (.lc (.nm 5) (.seq (.slc (.idx (.var 2) (.int 0)) (some (.int 1)) none)) none (.call (Str.ofString "table_then") [(.var 3), (.var 5)])), .set false (.nm 6) (.lst [(.bin .add (.call (Str.ofString "drops") [(.var 0), (.int 1)]) (.var 4))]), .for_ (.tup [(.nm 5), (.nm 7)]) (.zip (.slc (.var 1) (some (.int 1)) none) (.slc (.var 2) (some (.int 1)) none)) [.set true (.nm 8) (.lc (.tup [(.nm 9), (.nm 10)]) (.zip (.slc (.var 7) (some (.int 1)) none) (.var 4)) none (.call (Str.ofString "table_or") [(.var 9), (.call (Str.ofString "table_then") [(.var 5), (.var 10)])])), .app 6 (.bin .add (.call (Str.ofString "drops") [(.var 0), (.int 1)]) (.var 8))], .frz 6, .ret (.tup [(.bin .add (.lst [(.var 3)]) (.lc (.nm 5) (.seq (.slc (.var 1) (some (.int 1)) none)) none (.call (Str.ofString "table_then") [(.var 5), (.var 3)]))), (.var 6)])]⟩
def i_machine_again : FI := ⟨top 58, [(Str.ofString "machine"), (Str.ofString "ends"), (Str.ofString "goes"), (Str.ofString "again"), (Str.ofString "firsts"), (Str.ofString "table"), (Str.ofString "rows"), (Str.ofString "row"), (Str.ofString "more"), (Str.ofString "own"), (Str.ofString "first")], [(Str.ofString "machine")], f_machine_again⟩
/-- told_machine(fields, policy); 0:fields 1:policy 2:one -/
def f_told_machine : Fn := ⟨2, 3, [.ife (.not (.call (Str.ofString "has_halt") [(.var 1)])) [.ret (.call (Str.ofString "machine_of_table") [(.call (Str.ofString "told_table") [(.var 0), (.var 1)])])] [], .ife (.cmp .eq (.idx (.var 1) (.int 0)) (.glob (Str.ofString "HALT"))) [.ret (.call (Str.ofString "halt_machine") [(.call (Str.ofString "count_parcels") [(.var 0)])])] [], .set true (.nm 2) (.call (Str.ofString "told_machine") [(.var 0), (.idx (.var 1) (.int 1))]), .ife (.cmp .eq (.idx (.var 1) (.int 0)) (.glob (Str.ofString "OR"))) [.ret (.call (Str.ofString "machine_or") [(.var 2), (.call (Str.ofString "told_machine") [(.var 0), (.idx (.var 1) (.int 2))])])] [], .ife (.cmp .eq (.idx (.var 1) (.int 0)) (.glob (Str.ofString "THEN"))) [.ret (.call (Str.ofString "machine_then") [(.var 2), (.call (Str.ofString "told_machine") [(.var 0), (.idx (.var 1) (.int 2))])])] [], .ret (.call (Str.ofString "machine_again") [(.var 2)])]⟩
def i_told_machine : FI := ⟨top 59, [(Str.ofString "fields"), (Str.ofString "policy"), (Str.ofString "one")], [(Str.ofString "fields"), (Str.ofString "policy")], f_told_machine⟩
/-- machine_of(fields, policy); 0:fields 1:policy -/
def f_machine_of : Fn := ⟨2, 2, [.ife (.cmp .gt (.call (Str.ofString "count_halts") [(.var 1)]) (.glob (Str.ofString "MOST_STATES"))) [.nev] [], .ret (.call (Str.ofString "told_machine") [(.var 0), (.var 1)])]⟩
def i_machine_of : FI := ⟨top 60, [(Str.ofString "fields"), (Str.ofString "policy")], [(Str.ofString "fields"), (Str.ofString "policy")], f_machine_of⟩
/-- do_fit(machine); 0:machine 1:ends 2:goes 3:row -/
def f_do_fit : Fn := ⟨1, 4, [.set true (.tup [(.nm 1), (.nm 2)]) (.var 0), .ife (.or (.not (.chain .le .le (.int 1) (.blt .len (.var 1)) (.bin .add (.glob (Str.ofString "MOST_STATES")) (.int 1)))) (.cmp .ne (.blt .len (.var 2)) (.blt .len (.var 1)))) [.ret (.bl false)] [], .ret (.blt .all (.lc (.nm 3) (.seq (.var 2)) none (.cmp .eq (.blt .len (.var 3)) (.blt .len (.var 1)))))]⟩
def i_do_fit : FI := ⟨top 61, [(Str.ofString "machine"), (Str.ofString "ends"), (Str.ofString "goes"), (Str.ofString "row")], [(Str.ofString "machine")], f_do_fit⟩
/-- check_machine(fields, machine); 0:fields 1:machine 2:n 3:ends 4:goes 5:i 6:table 7:row 8:j -/
def f_check_machine : Fn := ⟨2, 9, [.ife (.not (.call (Str.ofString "do_fit") [(.var 1)])) [.raise (Str.ofString "BadMachine") [(.neg (.int 1)), (.neg (.int 1))]] [], .set true (.nm 2) (.call (Str.ofString "count_parcels") [(.var 0)]), .set true (.tup [(.nm 3), (.nm 4)]) (.var 1), .for_ (.tup [(.nm 5), (.nm 6)]) (.enum (.var 3)) [.ife (.not (.call (Str.ofString "is_table") [(.var 2), (.var 6)])) [.raise (Str.ofString "BadMachine") [(.var 5), (.neg (.int 1))]] []], .for_ (.tup [(.nm 5), (.nm 7)]) (.enum (.var 4)) [.for_ (.tup [(.nm 8), (.nm 6)]) (.enum (.var 7)) [.ife (.or (.not (.call (Str.ofString "is_table") [(.var 2), (.var 6)])) (.and (.cmp .eq (.var 8) (.int 0)) (.cmp .ne (.var 6) (.call (Str.ofString "drop_table") [(.var 2)])))) [.raise (Str.ofString "BadMachine") [(.var 5), (.var 8)]] []]]]⟩
def i_check_machine : FI := ⟨top 62, [(Str.ofString "fields"), (Str.ofString "machine"), (Str.ofString "n"), (Str.ofString "ends"), (Str.ofString "goes"), (Str.ofString "i"), (Str.ofString "table"), (Str.ofString "row"), (Str.ofString "j")], [(Str.ofString "fields"), (Str.ofString "machine")], f_check_machine⟩
/-- _law_feed(script); 0:script -/
def f__law_feed : Fn := ⟨1, 1, [.ret (.newRef [(.blt .list (.var 0)), (.int 0), (.int 0), (.int 1)])]⟩
def i__law_feed : FI := ⟨top 64, [(Str.ofString "script")], [(Str.ofString "script")], f__law_feed⟩
/-- _law_draw(feed, many); 0:feed 1:many 2:cell 3:told 4:mixed -/
def f__law_draw : Fn := ⟨2, 5, [.ife (.and (.cmp .eq (.idx (.var 0) (.int 2)) (.int 0)) (.cmp .lt (.idx (.var 0) (.int 1)) (.blt .len (.idx (.var 0) (.int 0))))) [.set true (.nm 2) (.blt .abs (.blt .int (.idx (.idx (.var 0) (.int 0)) (.idx (.var 0) (.int 1))))), .raug (.var 0) (.int 1) .add (.int 1), .ife (.cmp .ge (.var 2) (.bin .pow (.int 10) (.int 18))) [.rput (.var 0) (.int 2) (.var 2)] [.rput (.var 0) (.int 3) (.bin .mod (.blt .int (.bin .add (.bin .add (.bin .mul (.idx (.var 0) (.int 3)) (.int 48271)) (.bin .mul (.var 2) (.int 69621))) (.idx (.var 0) (.int 1)))) (.int 2147483647))]] [], .ife (.cmp .gt (.idx (.var 0) (.int 2)) (.int 0)) [.set true (.nm 3) (.bin .mod (.blt .int (.idx (.var 0) (.int 2))) (.var 1)), .rput (.var 0) (.int 2) (.bin .fdiv (.idx (.var 0) (.int 2)) (.var 1)), .ret (.var 3)] [], .rput (.var 0) (.int 3) (.bin .mod (.blt .int (.bin .add (.bin .mul (.idx (.var 0) (.int 3)) (.int 16807)) (.int 12345))) (.int 2147483647)), .set true (.nm 4) (.bin .mod (.blt .int (.bin .add (.bin .mul (.idx (.var 0) (.int 3)) (.idx (.var 0) (.int 3))) (.idx (.var 0) (.int 3)))) (.int 2147483629)), .ret (.bin .mod (.bin .fdiv (.var 4) (.int 11)) (.var 1))]⟩
def i__law_draw : FI := ⟨top 65, [(Str.ofString "feed"), (Str.ofString "many"), (Str.ofString "cell"), (Str.ofString "told"), (Str.ofString "mixed")], [(Str.ofString "feed"), (Str.ofString "many")], f__law_draw⟩
/-- _law_name(k); 0:k -/
def f__law_name : Fn := ⟨1, 1, [.ret (.idx (.lst [(.str (Str.ofString "a")), (.str (Str.ofString "bo")), (.str (Str.ofString "cat")), (.str (Str.ofString "dust"))]) (.var 0))]⟩
def i__law_name : FI := ⟨top 66, [(Str.ofString "k")], [(Str.ofString "k")], f__law_name⟩
/-- _law_fields(feed, most); 0:feed 1:most 2:found 3:left 4:k 5:n -/
def f__law_fields : Fn := ⟨2, 6, [.set false (.nm 2) (.lst []), .set true (.nm 3) (.var 1), .for_ (.nm 4) (.rng1 (.bin .add (.int 1) (.call (Str.ofString "_law_draw") [(.var 0), (.int 3)]))) [.set true (.nm 5) (.bin .add (.int 2) (.call (Str.ofString "_law_draw") [(.var 0), (.int 3)])), .ife (.cmp .le (.var 5) (.var 3)) [.app 2 (.tup [(.call (Str.ofString "_law_name") [(.var 4)]), (.var 5)]), .set true (.nm 3) (.bin .fdiv (.var 3) (.var 5))] []], .retMv 2]⟩
def i__law_fields : FI := ⟨top 67, [(Str.ofString "feed"), (Str.ofString "most"), (Str.ofString "found"), (Str.ofString "left"), (Str.ofString "k"), (Str.ofString "n")], [(Str.ofString "feed"), (Str.ofString "most")], f__law_fields⟩
/-- _law_pair(feed, fields); 0:feed 1:fields 2:f -/
def f__law_pair : Fn := ⟨2, 3, [.set true (.nm 2) (.call (Str.ofString "_law_draw") [(.var 0), (.blt .len (.var 1))]), .ret (.tup [(.var 2), (.call (Str.ofString "_law_draw") [(.var 0), (.idx (.idx (.var 1) (.var 2)) (.int 1))])])]⟩
def i__law_pair : FI := ⟨top 68, [(Str.ofString "feed"), (Str.ofString "fields"), (Str.ofString "f")], [(Str.ofString "feed"), (Str.ofString "fields")], f__law_pair⟩
/-- _law_test(feed, fields, size); 0:feed 1:fields 2:size 3:shape 4:left -/
def f__law_test : Fn := ⟨3, 5, [.set true (.nm 3) (.call (Str.ofString "_law_draw") [(.var 0), (.int 6)]), .ife (.or (.cmp .lt (.var 2) (.int 2)) (.cmp .eq (.var 3) (.int 0))) [.ret (.idx (.lst [(.tup [(.str (Str.ofString "drop"))]), (.tup [(.str (Str.ofString "pass"))]), (.bin .add (.tup [(.str (Str.ofString "test"))]) (.call (Str.ofString "_law_pair") [(.var 0), (.var 1)])), (.bin .add (.tup [(.str (Str.ofString "test"))]) (.call (Str.ofString "_law_pair") [(.var 0), (.var 1)]))]) (.call (Str.ofString "_law_draw") [(.var 0), (.int 4)]))] [], .ife (.or (.cmp .eq (.var 3) (.int 1)) (.cmp .eq (.var 2) (.int 2))) [.ret (.tup [(.str (Str.ofString "not")), (.call (Str.ofString "_law_test") [(.var 0), (.var 1), (.bin .sub (.var 2) (.int 1))])])] [], .set true (.nm 4) (.bin .add (.int 1) (.call (Str.ofString "_law_draw") [(.var 0), (.bin .sub (.var 2) (.int 2))])), .ret (.tup [(.idx (.lst [(.str (Str.ofString "or")), (.str (Str.ofString "then"))]) (.call (Str.ofString "_law_draw") [(.var 0), (.int 2)])), (.call (Str.ofString "_law_test") [(.var 0), (.var 1), (.var 4)]), (.call (Str.ofString "_law_test") [(.var 0), (.var 1), (.bin .sub (.bin .sub (.var 2) (.int 1)) (.var 4))])])]⟩
def i__law_test : FI := ⟨top 69, [(Str.ofString "feed"), (Str.ofString "fields"), (Str.ofString "size"), (Str.ofString "shape"), (Str.ofString "left")], [(Str.ofString "feed"), (Str.ofString "fields"), (Str.ofString "size")], f__law_test⟩
/-- _law_policy(feed, fields, size, halts); 0:feed 1:fields 2:size 3:halts 4:shape 5:row 6:left 7:one -/
def f__law_policy : Fn := ⟨4, 8, [.set true (.nm 4) (.call (Str.ofString "_law_draw") [(.var 0), (.int 8)]), .ife (.cmp .lt (.var 2) (.int 2)) [.set true (.nm 5) (.lst [(.bin .add (.tup [(.str (Str.ofString "put"))]) (.call (Str.ofString "_law_pair") [(.var 0), (.var 1)])), (.bin .add (.tup [(.str (Str.ofString "test"))]) (.call (Str.ofString "_law_pair") [(.var 0), (.var 1)])), (.bin .add (.tup [(.str (Str.ofString "put"))]) (.call (Str.ofString "_law_pair") [(.var 0), (.var 1)])), (.tup [(.str (Str.ofString "pass"))]), (.tup [(.str (Str.ofString "drop"))])]), .ret (.idx (.bin .add (.var 5) (.bin .mul (.lst [(.tup [(.str (Str.ofString "halt"))]), (.tup [(.str (Str.ofString "halt"))])]) (.var 3))) (.call (Str.ofString "_law_draw") [(.var 0), (.bin .add (.int 5) (.bin .mul (.int 2) (.var 3)))]))] [], .ife (.cmp .eq (.var 4) (.int 0)) [.ret (.call (Str.ofString "_law_test") [(.var 0), (.var 1), (.var 2)])] [], .ife (.or (.cmp .eq (.var 2) (.int 2)) (.cmp .eq (.var 4) (.int 1))) [.ret (.tup [(.str (Str.ofString "again")), (.call (Str.ofString "_law_policy") [(.var 0), (.var 1), (.bin .sub (.var 2) (.int 1)), (.var 3)])])] [], .set true (.nm 6) (.bin .add (.int 1) (.call (Str.ofString "_law_draw") [(.var 0), (.bin .sub (.var 2) (.int 2))])), .set true (.nm 7) (.call (Str.ofString "_law_policy") [(.var 0), (.var 1), (.var 6), (.var 3)]), .ret (.tup [(.idx (.lst [(.str (Str.ofString "or")), (.str (Str.ofString "then")), (.str (Str.ofString "then"))]) (.call (Str.ofString "_law_draw") [(.var 0), (.int 3)])), (.var 7), (.call (Str.ofString "_law_policy") [(.var 0), (.var 1), (.bin .sub (.bin .sub (.var 2) (.int 1)) (.var 6)), (.var 3)])])]⟩
def i__law_policy : FI := ⟨top 70, [(Str.ofString "feed"), (Str.ofString "fields"), (Str.ofString "size"), (Str.ofString "halts"), (Str.ofString "shape"), (Str.ofString "row"), (Str.ofString "left"), (Str.ofString "one")], [(Str.ofString "feed"), (Str.ofString "fields"), (Str.ofString "size"), (Str.ofString "halts")], f__law_policy⟩
/-- _law_same(actual, due); 0:actual 1:due 2:k -/
def f__law_same : Fn := ⟨2, 3, [.ife (.or (.isi (.var 1) .list) (.isi (.var 1) .tuple)) [.ife (.or (.cmp .ne (.isi (.var 0) .list) (.isi (.var 1) .list)) (.cmp .ne (.isi (.var 0) .tuple) (.isi (.var 1) .tuple))) [.ret (.bl false)] [], .ret (.and (.cmp .eq (.blt .len (.var 0)) (.blt .len (.var 1))) (.blt .all (.lc (.nm 2) (.rng1 (.blt .len (.var 1))) none (.call (Str.ofString "_law_same") [(.idx (.var 0) (.var 2)), (.idx (.var 1) (.var 2))]))))] [], .ife (.or (.cmp .isN (.var 1) .non) (.isi (.var 1) .bool)) [.ret (.ife (.cmp .isN (.var 1) .non) (.cmp .isN (.var 0) .non) (.and (.isi (.var 0) .bool) (.cmp .eq (.var 0) (.var 1))))] [], .ife (.isi (.var 1) .str) [.ret (.and (.isi (.var 0) .str) (.cmp .eq (.var 0) (.var 1)))] [], .ret (.and (.isi (.var 0) .int) (.and (.not (.isi (.var 0) .bool)) (.cmp .eq (.var 0) (.var 1))))]⟩
def i__law_same : FI := ⟨top 71, [(Str.ofString "actual"), (Str.ofString "due"), (Str.ofString "k")], [(Str.ofString "actual"), (Str.ofString "due")], f__law_same⟩
/-- _law_anew(value); 0:value 1:part -/
def f__law_anew : Fn := ⟨1, 2, [.ife (.isi (.var 0) .tuple) [.ret (.blt .tuple (.lc (.nm 1) (.seq (.var 0)) none (.call (Str.ofString "_law_anew") [(.var 1)])))] [], .ife (.isi (.var 0) .list) [.ret (.lc (.nm 1) (.seq (.var 0)) none (.call (Str.ofString "_law_anew") [(.var 1)]))] [], .ret (.var 0)]⟩
def i__law_anew : FI := ⟨top 72, [(Str.ofString "value"), (Str.ofString "part")], [(Str.ofString "value")], f__law_anew⟩
/-- _law_many(fields); 0:fields 1:many 2:name 3:n -/
def f__law_many : Fn := ⟨1, 4, [.set true (.nm 1) (.int 1), .for_ (.tup [(.nm 2), (.nm 3)]) (.seq (.var 0)) [.set true (.nm 1) (.bin .mul (.var 1) (.var 3))], .ret (.var 1)]⟩
def i__law_many : FI := ⟨top 73, [(Str.ofString "fields"), (Str.ofString "many"), (Str.ofString "name"), (Str.ofString "n")], [(Str.ofString "fields")], f__law_many⟩
/-- _law_some_table(feed, n, thick); 0:feed 1:n 2:thick 3:found 4:number 5:out -/
def f__law_some_table : Fn := ⟨3, 6, [.set false (.nm 3) (.lst []), .for_ (.nm 4) (.rng1 (.var 1)) [.app 3 (.lc (.nm 5) (.rng1 (.var 1)) (some (.cmp .eq (.call (Str.ofString "_law_draw") [(.var 0), (.var 2)]) (.int 0))) (.var 5))], .retMv 3]⟩
def i__law_some_table : FI := ⟨top 74, [(Str.ofString "feed"), (Str.ofString "n"), (Str.ofString "thick"), (Str.ofString "found"), (Str.ofString "number"), (Str.ofString "out")], [(Str.ofString "feed"), (Str.ofString "n"), (Str.ofString "thick")], f__law_some_table⟩
/-- _law_drop(n); 0:n 1:k -/
def f__law_drop : Fn := ⟨1, 2, [.ret (.lc (.nm 1) (.rng1 (.var 0)) none (.lst []))]⟩
def i__law_drop : FI := ⟨top 75, [(Str.ofString "n"), (Str.ofString "k")], [(Str.ofString "n")], f__law_drop⟩
/-- _law_some_machine(feed, n, states, thick); 0:feed 1:n 2:states 3:thick 4:ends 5:i 6:goes 7:j -/
def f__law_some_machine : Fn := ⟨4, 8, [.set true (.nm 4) (.lc (.nm 5) (.rng1 (.bin .add (.var 2) (.int 1))) none (.call (Str.ofString "_law_some_table") [(.var 0), (.var 1), (.var 3)])), .set false (.nm 6) (.lst []), .for_ (.nm 5) (.rng1 (.bin .add (.var 2) (.int 1))) [.app 6 (.bin .add (.lst [(.call (Str.ofString "_law_drop") [(.var 1)])]) (.lc (.nm 7) (.rng1 (.var 2)) none (.call (Str.ofString "_law_some_table") [(.var 0), (.var 1), (.var 3)])))], .frz 6, .ret (.tup [(.var 4), (.var 6)])]⟩
def i__law_some_machine : FI := ⟨top 76, [(Str.ofString "feed"), (Str.ofString "n"), (Str.ofString "states"), (Str.ofString "thick"), (Str.ofString "ends"), (Str.ofString "i"), (Str.ofString "goes"), (Str.ofString "j")], [(Str.ofString "feed"), (Str.ofString "n"), (Str.ofString "states"), (Str.ofString "thick")], f__law_some_machine⟩
/-- _law_is_table(n, table); 0:n 1:table 2:outs 3:at -/
def f__law_is_table : Fn := ⟨2, 4, [.ife (.cmp .ne (.blt .len (.var 1)) (.var 0)) [.ret (.bl false)] [], .for_ (.nm 2) (.seq (.var 1)) [.for_ (.nm 3) (.rng1 (.blt .len (.var 2))) [.ife (.or (.not (.chain .le .lt (.int 0) (.idx (.var 2) (.var 3)) (.var 0))) (.and (.cmp .gt (.var 3) (.int 0)) (.cmp .ge (.idx (.var 2) (.bin .sub (.var 3) (.int 1))) (.idx (.var 2) (.var 3))))) [.ret (.bl false)] []]], .ret (.bl true)]⟩
def i__law_is_table : FI := ⟨top 77, [(Str.ofString "n"), (Str.ofString "table"), (Str.ofString "outs"), (Str.ofString "at")], [(Str.ofString "n"), (Str.ofString "table")], f__law_is_table⟩
/-- _law_fault(n, machine); 0:n 1:machine 2:ends 3:goes 4:row 5:i 6:j 7:outs -/
def f__law_fault : Fn := ⟨2, 8, [.set true (.tup [(.nm 2), (.nm 3)]) (.var 1), .ife (.or (.not (.chain .lt .lt (.int 0) (.blt .len (.var 2)) (.int 14))) (.or (.cmp .ne (.blt .len (.var 3)) (.blt .len (.var 2))) (.cmp .gt (.blt .len (.lc (.nm 4) (.seq (.var 3)) (some (.cmp .ne (.blt .len (.var 4)) (.blt .len (.var 2)))) (.var 4))) (.int 0)))) [.ret (.tup [(.neg (.int 1)), (.neg (.int 1))])] [], .for_ (.nm 5) (.rng1 (.blt .len (.var 2))) [.ife (.not (.call (Str.ofString "_law_is_table") [(.var 0), (.idx (.var 2) (.var 5))])) [.ret (.tup [(.var 5), (.neg (.int 1))])] []], .for_ (.nm 5) (.rng1 (.blt .len (.var 2))) [.for_ (.nm 6) (.rng1 (.blt .len (.var 2))) [.ife (.or (.not (.call (Str.ofString "_law_is_table") [(.var 0), (.idx (.idx (.var 3) (.var 5)) (.var 6))])) (.and (.cmp .eq (.var 6) (.int 0)) (.cmp .gt (.blt .len (.lc (.nm 7) (.seq (.idx (.idx (.var 3) (.var 5)) (.var 6))) (some (.cmp .gt (.blt .len (.var 7)) (.int 0))) (.var 7))) (.int 0)))) [.ret (.tup [(.var 5), (.var 6)])] []]], .ret .non]⟩
def i__law_fault : FI := ⟨top 78, [(Str.ofString "n"), (Str.ofString "machine"), (Str.ofString "ends"), (Str.ofString "goes"), (Str.ofString "row"), (Str.ofString "i"), (Str.ofString "j"), (Str.ofString "outs")], [(Str.ofString "n"), (Str.ofString "machine")], f__law_fault⟩
/-- _law_told(fields, machine); 0:fields 1:machine 2:handed 3:told 4:e 5:right -/
def f__law_told : Fn := ⟨2, 6, [.set true (.nm 2) (.call (Str.ofString "_law_anew") [(.var 1)]), .tryS (Str.ofString "BadMachine") 4 (.set true (.nm 3) (.call (Str.ofString "check_machine") [(.var 0), (.var 2)])) [.set true (.nm 5) (.and (.isE 4 (Str.ofString "WayError")) (.and (.not (.isE 4 (Str.ofString "BadPlain"))) (.not (.isE 4 (Str.ofString "BadTable"))))), .ret (.idx (.lst [(.tup [(.str (Str.ofString "error")), (.int 0)]), (.tup [(.fld 4 (Str.ofString "i")), (.fld 4 (Str.ofString "j"))])]) (.blt .int (.and (.var 5) (.cmp .eq (.var 2) (.var 1)))))], .ret (.idx (.lst [(.tup [(.str (Str.ofString "error")), (.int 1)]), .non]) (.blt .int (.and (.cmp .isN (.var 3) .non) (.cmp .eq (.var 2) (.var 1)))))]⟩
def i__law_told : FI := ⟨top 79, [(Str.ofString "fields"), (Str.ofString "machine"), (Str.ofString "handed"), (Str.ofString "told"), (Str.ofString "e"), (Str.ofString "right")], [(Str.ofString "fields"), (Str.ofString "machine")], f__law_told⟩
/-- _law_no_table(feed, n, table); 0:feed 1:n 2:table 3:at 4:outs 5:news 6:new -/
def f__law_no_table : Fn := ⟨3, 7, [.set true (.nm 3) (.call (Str.ofString "_law_draw") [(.var 0), (.var 1)]), .set true (.nm 4) (.idx (.var 2) (.var 3)), .set true (.nm 5) (.lst [(.bin .add (.var 4) (.lst [(.var 1)])), (.bin .add (.lst [(.neg (.int 1))]) (.var 4)), (.rev (.var 4)), (.bin .add (.var 4) (.slc (.var 4) (some (.neg (.int 1))) none)), (.bin .add (.lst [(.bin .sub (.var 1) (.int 1))]) (.var 4)), (.bin .add (.var 4) (.lst [(.int 0)]))]), .set true (.nm 5) (.lc (.nm 6) (.seq (.var 5)) none (.bin .add (.bin .add (.slc (.var 2) none (some (.var 3))) (.lst [(.var 6)])) (.slc (.var 2) (some (.bin .add (.var 3) (.int 1))) none))), .set true (.nm 5) (.bin .add (.var 5) (.lst [(.slc (.var 2) none (some (.neg (.int 1)))), (.bin .add (.var 2) (.lst [(.lst [])])), (.lst []), (.bin .add (.var 2) (.var 2))])), .ret (.idx (.var 5) (.call (Str.ofString "_law_draw") [(.var 0), (.blt .len (.var 5))]))]⟩
def i__law_no_table : FI := ⟨top 80, [(Str.ofString "feed"), (Str.ofString "n"), (Str.ofString "table"), (Str.ofString "at"), (Str.ofString "outs"), (Str.ofString "news"), (Str.ofString "new")], [(Str.ofString "feed"), (Str.ofString "n"), (Str.ofString "table")], f__law_no_table⟩
/-- _law_bent(feed, n, machine); 0:feed 1:n 2:machine 3:ends 4:goes 5:many 6:i 7:j 8:kind 9:k -/
def f__law_bent : Fn := ⟨3, 10, [.set true (.tup [(.nm 3), (.nm 4)]) (.call (Str.ofString "_law_anew") [(.var 2)]), .set true (.nm 5) (.blt .len (.var 3)), .set true (.nm 6) (.call (Str.ofString "_law_draw") [(.var 0), (.var 5)]), .set true (.nm 7) (.call (Str.ofString "_law_draw") [(.var 0), (.var 5)]), .set true (.nm 8) (.call (Str.ofString "_law_draw") [(.var 0), (.int 10)]), .ife (.cmp .eq (.var 8) (.int 0)) [.set true (.nm 3) (.bin .add (.slc (.var 3) none (some (.var 6))) (.slc (.var 3) (some (.bin .add (.var 6) (.int 1))) none))] [.ife (.cmp .eq (.var 8) (.int 1)) [.set true (.nm 3) (.bin .add (.var 3) (.lst [(.call (Str.ofString "_law_drop") [(.var 1)])]))] [.ife (.cmp .eq (.var 8) (.int 2)) [.set true (.nm 4) (.bin .add (.slc (.var 4) none (some (.var 6))) (.slc (.var 4) (some (.bin .add (.var 6) (.int 1))) none))] [.ife (.cmp .eq (.var 8) (.int 3)) [.set true (.nm 4) (.bin .add (.var 4) (.lst [(.lc (.nm 9) (.rng1 (.var 5)) none (.call (Str.ofString "_law_drop") [(.var 1)]))]))] [.ife (.cmp .eq (.var 8) (.int 4)) [.set true (.nm 4) (.bin .add (.bin .add (.slc (.var 4) none (some (.var 6))) (.lst [(.slc (.idx (.var 4) (.var 6)) none (some (.neg (.int 1))))])) (.slc (.var 4) (some (.bin .add (.var 6) (.int 1))) none))] [.ife (.cmp .eq (.var 8) (.int 5)) [.set true (.nm 4) (.bin .add (.bin .add (.slc (.var 4) none (some (.var 6))) (.lst [(.bin .add (.idx (.var 4) (.var 6)) (.lst [(.call (Str.ofString "_law_drop") [(.var 1)])]))])) (.slc (.var 4) (some (.bin .add (.var 6) (.int 1))) none))] [.ife (.cmp .eq (.var 8) (.int 6)) [.set true (.nm 3) (.bin .add (.bin .add (.slc (.var 3) none (some (.var 6))) (.lst [(.call (Str.ofString "_law_no_table") [(.var 0), (.var 1), (.idx (.var 3) (.var 6))])])) (.slc (.var 3) (some (.bin .add (.var 6) (.int 1))) none))] [.ife (.cmp .eq (.var 8) (.int 7)) [.set true (.nm 4) (.bin .add (.bin .add (.slc (.var 4) none (some (.var 6))) (.lst [(.bin .add (.lst [(.bin .add (.bin .mul (.lst [(.lst [])]) (.bin .sub (.var 1) (.int 1))) (.lst [(.lst [(.int 0)])]))]) (.slc (.idx (.var 4) (.var 6)) (some (.int 1)) none))])) (.slc (.var 4) (some (.bin .add (.var 6) (.int 1))) none))] [.set true (.nm 4) (.bin .add (.bin .add (.slc (.var 4) none (some (.var 6))) (.lst [(.bin .add (.bin .add (.slc (.idx (.var 4) (.var 6)) none (some (.var 7))) (.lst [(.call (Str.ofString "_law_no_table") [(.var 0), (.var 1), (.idx (.idx (.var 4) (.var 6)) (.var 7))])])) (.slc (.idx (.var 4) (.var 6)) (some (.bin .add (.var 7) (.int 1))) none))])) (.slc (.var 4) (some (.bin .add (.var 6) (.int 1))) none))]]]]]]]], .ret (.tup [(.var 3), (.var 4)])]⟩
def i__law_bent : FI := ⟨top 81, [(Str.ofString "feed"), (Str.ofString "n"), (Str.ofString "machine"), (Str.ofString "ends"), (Str.ofString "goes"), (Str.ofString "many"), (Str.ofString "i"), (Str.ofString "j"), (Str.ofString "kind"), (Str.ofString "k")], [(Str.ofString "feed"), (Str.ofString "n"), (Str.ofString "machine")], f__law_bent⟩
/-- _law_right(feed, fields, machine); 0:feed 1:fields 2:machine 3:n 4:papers 5:step 6:paper 7:row -/
def f__law_right : Fn := ⟨3, 8, [.set true (.nm 3) (.call (Str.ofString "_law_many") [(.var 1)]), .set false (.nm 4) (.lst [(.var 2), (.tup [(.lst []), (.lst [])]), (.tup [(.lst []), (.idx (.var 2) (.int 1))]), (.tup [(.idx (.var 2) (.int 0)), (.lst [])])]), .for_ (.nm 5) (.rng1 (.int 7)) [.set true (.nm 6) (.call (Str.ofString "_law_bent") [(.var 0), (.var 3), (.var 2)]), .app 4 (.var 6), .ife (.and (.cmp .gt (.blt .len (.idx (.var 6) (.int 0))) (.int 0)) (.and (.cmp .eq (.blt .len (.idx (.var 6) (.int 1))) (.blt .len (.idx (.var 6) (.int 0)))) (.cmp .eq (.blt .len (.lc (.nm 7) (.seq (.idx (.var 6) (.int 1))) (some (.cmp .ne (.blt .len (.var 7)) (.blt .len (.idx (.var 6) (.int 0))))) (.var 7))) (.int 0)))) [.app 4 (.call (Str.ofString "_law_bent_again") [(.var 0), (.var 3), (.var 6)])] []], .frz 4, .for_ (.nm 6) (.seq (.var 4)) [.ife (.not (.call (Str.ofString "_law_same") [(.call (Str.ofString "_law_told") [(.var 1), (.var 6)]), (.call (Str.ofString "_law_fault") [(.var 3), (.var 6)])])) [.ret (.bl false)] []], .ret (.bl true)]⟩
def i__law_right : FI := ⟨top 82, [(Str.ofString "feed"), (Str.ofString "fields"), (Str.ofString "machine"), (Str.ofString "n"), (Str.ofString "papers"), (Str.ofString "step"), (Str.ofString "paper"), (Str.ofString "row")], [(Str.ofString "feed"), (Str.ofString "fields"), (Str.ofString "machine")], f__law_right⟩
/-- _law_bent_again(feed, n, paper); 0:feed 1:n 2:paper 3:ends 4:goes 5:i 6:j -/
def f__law_bent_again : Fn := ⟨3, 7, [.set true (.tup [(.nm 3), (.nm 4)]) (.call (Str.ofString "_law_anew") [(.var 2)]), .set true (.nm 5) (.call (Str.ofString "_law_draw") [(.var 0), (.blt .len (.var 3))]), .set true (.nm 6) (.call (Str.ofString "_law_draw") [(.var 0), (.blt .len (.var 3))]), .ife (.cmp .eq (.call (Str.ofString "_law_draw") [(.var 0), (.int 2)]) (.int 0)) [.ret (.tup [(.bin .add (.bin .add (.slc (.var 3) none (some (.var 5))) (.lst [(.bin .add (.idx (.var 3) (.var 5)) (.lst [(.lst [])]))])) (.slc (.var 3) (some (.bin .add (.var 5) (.int 1))) none)), (.var 4)])] [], .ret (.tup [(.var 3), (.bin .add (.bin .add (.slc (.var 4) none (some (.var 5))) (.lst [(.bin .add (.bin .add (.slc (.idx (.var 4) (.var 5)) none (some (.var 6))) (.lst [(.bin .add (.idx (.idx (.var 4) (.var 5)) (.var 6)) (.lst [(.lst [])]))])) (.slc (.idx (.var 4) (.var 5)) (some (.bin .add (.var 6) (.int 1))) none))])) (.slc (.var 4) (some (.bin .add (.var 5) (.int 1))) none))])]⟩
def i__law_bent_again : FI := ⟨top 83, [(Str.ofString "feed"), (Str.ofString "n"), (Str.ofString "paper"), (Str.ofString "ends"), (Str.ofString "goes"), (Str.ofString "i"), (Str.ofString "j")], [(Str.ofString "feed"), (Str.ofString "n"), (Str.ofString "paper")], f__law_bent_again⟩
/-- law(script); 0:script 1:feed 2:turn 3:fields 4:states 5:policy 6:great 7:two 8:one -/
def f_law : Fn := ⟨1, 9, [.set true (.nm 1) (.call (Str.ofString "_law_feed") [(.var 0)]), .for_ (.nm 2) (.rng1 (.int 3)) [.set true (.nm 3) (.call (Str.ofString "_law_fields") [(.var 1), (.int 5)]), .set true (.nm 4) (.call (Str.ofString "_law_draw") [(.var 1), (.int 4)]), .ife (.cmp .eq (.call (Str.ofString "_law_draw") [(.var 1), (.int 6)]) (.int 0)) [.set true (.nm 3) (.lst [(.tup [(.str (Str.ofString "a")), (.int 2)])]), .set true (.nm 4) (.int 12)] [], .ife (.not (.call (Str.ofString "_law_right") [(.var 1), (.var 3), (.call (Str.ofString "_law_some_machine") [(.var 1), (.call (Str.ofString "_law_many") [(.var 3)]), (.var 4), (.bin .add (.int 2) (.call (Str.ofString "_law_draw") [(.var 1), (.int 4)]))])])) [.ret (.bl false)] [], .set true (.nm 5) (.call (Str.ofString "_law_policy") [(.var 1), (.var 3), (.bin .add (.int 2) (.call (Str.ofString "_law_draw") [(.var 1), (.int 8)])), (.int 1)]), .ife (.cmp .notN (.call (Str.ofString "_law_told") [(.var 3), (.call (Str.ofString "machine_of") [(.var 3), (.var 5)])]) .non) [.ret (.bl false)] []], .set true (.nm 6) (.call (Str.ofString "_law_some_machine") [(.var 1), (.int 2), (.int 13), (.int 4)]), .ife (.not (.call (Str.ofString "_law_same") [(.lst [(.call (Str.ofString "_law_told") [(.lst [(.tup [(.str (Str.ofString "a")), (.int 2)])]), (.var 6)]), (.call (Str.ofString "_law_told") [(.lst [(.tup [(.str (Str.ofString "a")), (.int 2)])]), (.tup [(.lst [(.lst [(.lst []), (.lst [])])]), (.lst [(.lst [(.lst [(.lst []), (.lst [])])])])])])]), (.lst [(.tup [(.neg (.int 1)), (.neg (.int 1))]), .non])])) [.ret (.bl false)] [], .set true (.nm 7) (.tup [(.lst [(.lst [(.lst []), (.lst [])]), (.lst [(.lst [(.int 1), (.int 0)]), (.lst [])])]), (.lst [(.lst [(.lst [(.lst []), (.lst [])]), (.lst [(.lst []), (.lst [])])]), (.lst [(.lst [(.lst [(.int 0)]), (.lst [])]), (.lst [(.lst []), (.lst [])])])])]), .set true (.nm 8) (.tup [(.lst [(.lst [(.lst []), (.lst [])]), (.lst [(.lst [(.int 0), (.int 1)]), (.lst [])])]), (.idx (.var 7) (.int 1))]), .ret (.call (Str.ofString "_law_same") [(.lst [(.call (Str.ofString "_law_told") [(.lst [(.tup [(.str (Str.ofString "a")), (.int 2)])]), (.var 7)]), (.call (Str.ofString "_law_told") [(.lst [(.tup [(.str (Str.ofString "a")), (.int 2)])]), (.var 8)]), (.call (Str.ofString "_law_told") [(.lst [(.tup [(.str (Str.ofString "a")), (.int 3)])]), (.var 8)])]), (.lst [(.tup [(.int 1), (.neg (.int 1))]), (.tup [(.int 1), (.int 0)]), (.tup [(.int 0), (.neg (.int 1))])])])]⟩
def i_law : FI := ⟨top 84, [(Str.ofString "script"), (Str.ofString "feed"), (Str.ofString "turn"), (Str.ofString "fields"), (Str.ofString "states"), (Str.ofString "policy"), (Str.ofString "great"), (Str.ofString "two"), (Str.ofString "one")], [(Str.ofString "script")], f_law⟩
def T1 : List (Str × FI) := [((Str.ofString "product_of"), i_product_of), ((Str.ofString "count_parcels"), i_count_parcels), ((Str.ofString "all_parcels"), i_all_parcels), ((Str.ofString "number_of_parcel"), i_number_of_parcel), ((Str.ofString "with_worth"), i_with_worth), ((Str.ofString "is_whole"), i_is_whole), ((Str.ofString "are_wholes"), i_are_wholes), ((Str.ofString "are_between"), i_are_between), ((Str.ofString "is_rising"), i_is_rising), ((Str.ofString "parts_ahead"), i_parts_ahead), ((Str.ofString "has_halt"), i_has_halt), ((Str.ofString "count_halts"), i_count_halts), ((Str.ofString "pass_table"), i_pass_table), ((Str.ofString "drop_table"), i_drop_table), ((Str.ofString "copied_table"), i_copied_table), ((Str.ofString "joined"), i_joined), ((Str.ofString "outs_of_numbers"), i_outs_of_numbers), ((Str.ofString "table_or"), i_table_or), ((Str.ofString "table_then"), i_table_then), ((Str.ofString "all_behind"), i_all_behind), ((Str.ofString "table_again"), i_table_again), ((Str.ofString "table_not"), i_table_not), ((Str.ofString "test_table"), i_test_table), ((Str.ofString "put_table"), i_put_table), ((Str.ofString "table_of_sign"), i_table_of_sign), ((Str.ofString "told_table"), i_told_table), ((Str.ofString "is_outs"), i_is_outs), ((Str.ofString "is_table"), i_is_table), ((Str.ofString "count_states"), i_count_states), ((Str.ofString "copied_tables"), i_copied_tables), ((Str.ofString "drops"), i_drops), ((Str.ofString "machine_of_table"), i_machine_of_table), ((Str.ofString "halt_machine"), i_halt_machine), ((Str.ofString "rows_behind"), i_rows_behind), ((Str.ofString "machine_or"), i_machine_or), ((Str.ofString "machine_then"), i_machine_then), ((Str.ofString "machine_again"), i_machine_again), ((Str.ofString "told_machine"), i_told_machine), ((Str.ofString "machine_of"), i_machine_of), ((Str.ofString "do_fit"), i_do_fit), ((Str.ofString "check_machine"), i_check_machine), ((Str.ofString "_law_feed"), i__law_feed), ((Str.ofString "_law_draw"), i__law_draw), ((Str.ofString "_law_name"), i__law_name), ((Str.ofString "_law_fields"), i__law_fields), ((Str.ofString "_law_pair"), i__law_pair), ((Str.ofString "_law_test"), i__law_test), ((Str.ofString "_law_policy"), i__law_policy), ((Str.ofString "_law_same"), i__law_same), ((Str.ofString "_law_anew"), i__law_anew), ((Str.ofString "_law_many"), i__law_many), ((Str.ofString "_law_some_table"), i__law_some_table), ((Str.ofString "_law_drop"), i__law_drop), ((Str.ofString "_law_some_machine"), i__law_some_machine), ((Str.ofString "_law_is_table"), i__law_is_table), ((Str.ofString "_law_fault"), i__law_fault), ((Str.ofString "_law_told"), i__law_told), ((Str.ofString "_law_no_table"), i__law_no_table), ((Str.ofString "_law_bent"), i__law_bent), ((Str.ofString "_law_right"), i__law_right), ((Str.ofString "_law_bent_again"), i__law_bent_again), ((Str.ofString "law"), i_law)]
def tab : Table := [((Str.ofString "product_of"), f_product_of), ((Str.ofString "count_parcels"), f_count_parcels), ((Str.ofString "all_parcels"), f_all_parcels), ((Str.ofString "number_of_parcel"), f_number_of_parcel), ((Str.ofString "with_worth"), f_with_worth), ((Str.ofString "is_whole"), f_is_whole), ((Str.ofString "are_wholes"), f_are_wholes), ((Str.ofString "are_between"), f_are_between), ((Str.ofString "is_rising"), f_is_rising), ((Str.ofString "parts_ahead"), f_parts_ahead), ((Str.ofString "has_halt"), f_has_halt), ((Str.ofString "count_halts"), f_count_halts), ((Str.ofString "pass_table"), f_pass_table), ((Str.ofString "drop_table"), f_drop_table), ((Str.ofString "copied_table"), f_copied_table), ((Str.ofString "joined"), f_joined), ((Str.ofString "outs_of_numbers"), f_outs_of_numbers), ((Str.ofString "table_or"), f_table_or), ((Str.ofString "table_then"), f_table_then), ((Str.ofString "all_behind"), f_all_behind), ((Str.ofString "table_again"), f_table_again), ((Str.ofString "table_not"), f_table_not), ((Str.ofString "test_table"), f_test_table), ((Str.ofString "put_table"), f_put_table), ((Str.ofString "table_of_sign"), f_table_of_sign), ((Str.ofString "told_table"), f_told_table), ((Str.ofString "is_outs"), f_is_outs), ((Str.ofString "is_table"), f_is_table), ((Str.ofString "count_states"), f_count_states), ((Str.ofString "copied_tables"), f_copied_tables), ((Str.ofString "drops"), f_drops), ((Str.ofString "machine_of_table"), f_machine_of_table), ((Str.ofString "halt_machine"), f_halt_machine), ((Str.ofString "rows_behind"), f_rows_behind), ((Str.ofString "machine_or"), f_machine_or), ((Str.ofString "machine_then"), f_machine_then), ((Str.ofString "machine_again"), f_machine_again), ((Str.ofString "told_machine"), f_told_machine), ((Str.ofString "machine_of"), f_machine_of), ((Str.ofString "do_fit"), f_do_fit), ((Str.ofString "check_machine"), f_check_machine), ((Str.ofString "_law_feed"), f__law_feed), ((Str.ofString "_law_draw"), f__law_draw), ((Str.ofString "_law_name"), f__law_name), ((Str.ofString "_law_fields"), f__law_fields), ((Str.ofString "_law_pair"), f__law_pair), ((Str.ofString "_law_test"), f__law_test), ((Str.ofString "_law_policy"), f__law_policy), ((Str.ofString "_law_same"), f__law_same), ((Str.ofString "_law_anew"), f__law_anew), ((Str.ofString "_law_many"), f__law_many), ((Str.ofString "_law_some_table"), f__law_some_table), ((Str.ofString "_law_drop"), f__law_drop), ((Str.ofString "_law_some_machine"), f__law_some_machine), ((Str.ofString "_law_is_table"), f__law_is_table), ((Str.ofString "_law_fault"), f__law_fault), ((Str.ofString "_law_told"), f__law_told), ((Str.ofString "_law_no_table"), f__law_no_table), ((Str.ofString "_law_bent"), f__law_bent), ((Str.ofString "_law_right"), f__law_right), ((Str.ofString "_law_bent_again"), f__law_bent_again), ((Str.ofString "law"), f_law)]
def sig : Sig := [((Str.ofString "product_of"), 1), ((Str.ofString "count_parcels"), 1), ((Str.ofString "all_parcels"), 1), ((Str.ofString "number_of_parcel"), 2), ((Str.ofString "with_worth"), 3), ((Str.ofString "is_whole"), 1), ((Str.ofString "are_wholes"), 1), ((Str.ofString "are_between"), 3), ((Str.ofString "is_rising"), 1), ((Str.ofString "parts_ahead"), 1), ((Str.ofString "has_halt"), 1), ((Str.ofString "count_halts"), 1), ((Str.ofString "pass_table"), 1), ((Str.ofString "drop_table"), 1), ((Str.ofString "copied_table"), 1), ((Str.ofString "joined"), 2), ((Str.ofString "outs_of_numbers"), 2), ((Str.ofString "table_or"), 2), ((Str.ofString "table_then"), 2), ((Str.ofString "all_behind"), 2), ((Str.ofString "table_again"), 1), ((Str.ofString "table_not"), 1), ((Str.ofString "test_table"), 3), ((Str.ofString "put_table"), 3), ((Str.ofString "table_of_sign"), 2), ((Str.ofString "told_table"), 2), ((Str.ofString "is_outs"), 2), ((Str.ofString "is_table"), 2), ((Str.ofString "count_states"), 1), ((Str.ofString "copied_tables"), 1), ((Str.ofString "drops"), 2), ((Str.ofString "machine_of_table"), 1), ((Str.ofString "halt_machine"), 1), ((Str.ofString "rows_behind"), 2), ((Str.ofString "machine_or"), 2), ((Str.ofString "machine_then"), 2), ((Str.ofString "machine_again"), 1), ((Str.ofString "told_machine"), 2), ((Str.ofString "machine_of"), 2), ((Str.ofString "do_fit"), 1), ((Str.ofString "check_machine"), 2), ((Str.ofString "_law_feed"), 1), ((Str.ofString "_law_draw"), 2), ((Str.ofString "_law_name"), 1), ((Str.ofString "_law_fields"), 2), ((Str.ofString "_law_pair"), 2), ((Str.ofString "_law_test"), 3), ((Str.ofString "_law_policy"), 4), ((Str.ofString "_law_same"), 2), ((Str.ofString "_law_anew"), 1), ((Str.ofString "_law_many"), 1), ((Str.ofString "_law_some_table"), 3), ((Str.ofString "_law_drop"), 1), ((Str.ofString "_law_some_machine"), 4), ((Str.ofString "_law_is_table"), 2), ((Str.ofString "_law_fault"), 2), ((Str.ofString "_law_told"), 2), ((Str.ofString "_law_no_table"), 3), ((Str.ofString "_law_bent"), 3), ((Str.ofString "_law_right"), 3), ((Str.ofString "_law_bent_again"), 3), ((Str.ofString "law"), 1)]
def cls : Cls := [((Str.ofString "BadMachine"), [(Str.ofString "i"), (Str.ofString "j")])]
def subs : List (Str × List (Str × Bool)) := [((Str.ofString "BadMachine"), [((Str.ofString "BadMachine"), true), ((Str.ofString "BadPlain"), false), ((Str.ofString "BadTable"), false), ((Str.ofString "WayError"), true)])]
def xi : XI := ⟨fun c => cls.lookup c, fun k c => (subs.lookup k).bind fun r => r.lookup c⟩
def gls : List (Str × D) := [((Str.ofString "DROP"), .str (Str.ofString "drop")), ((Str.ofString "PASS"), .str (Str.ofString "pass")), ((Str.ofString "TEST"), .str (Str.ofString "test")), ((Str.ofString "PUT"), .str (Str.ofString "put")), ((Str.ofString "HALT"), .str (Str.ofString "halt")), ((Str.ofString "OR"), .str (Str.ofString "or")), ((Str.ofString "THEN"), .str (Str.ofString "then")), ((Str.ofString "AGAIN"), .str (Str.ofString "again")), ((Str.ofString "NOT"), .str (Str.ofString "not")), ((Str.ofString "PARTS"), .dct false [.inr (Str.ofString "drop"), .inr (Str.ofString "pass"), .inr (Str.ofString "test"), .inr (Str.ofString "put"), .inr (Str.ofString "halt"), .inr (Str.ofString "or"), .inr (Str.ofString "then"), .inr (Str.ofString "again"), .inr (Str.ofString "not")] [.int 0, .int 0, .int 0, .int 0, .int 0, .int 2, .int 2, .int 1, .int 1]), ((Str.ofString "MOST_STATES"), .int 12)]
theorem ok_product_of : fiOk sig cls false i_product_of = true := by decide +kernel
theorem ok_count_parcels : fiOk sig cls false i_count_parcels = true := by decide +kernel
theorem ok_all_parcels : fiOk sig cls false i_all_parcels = true := by decide +kernel
theorem ok_number_of_parcel : fiOk sig cls false i_number_of_parcel = true := by decide +kernel
theorem ok_with_worth : fiOk sig cls false i_with_worth = true := by decide +kernel
theorem ok_is_whole : fiOk sig cls false i_is_whole = true := by decide +kernel
theorem ok_are_wholes : fiOk sig cls false i_are_wholes = true := by decide +kernel
theorem ok_are_between : fiOk sig cls false i_are_between = true := by decide +kernel
theorem ok_is_rising : fiOk sig cls false i_is_rising = true := by decide +kernel
theorem ok_parts_ahead : fiOk sig cls false i_parts_ahead = true := by decide +kernel
theorem ok_has_halt : fiOk sig cls false i_has_halt = true := by decide +kernel
theorem ok_count_halts : fiOk sig cls false i_count_halts = true := by decide +kernel
theorem ok_pass_table : fiOk sig cls false i_pass_table = true := by decide +kernel
theorem ok_drop_table : fiOk sig cls false i_drop_table = true := by decide +kernel
theorem ok_copied_table : fiOk sig cls false i_copied_table = true := by decide +kernel
theorem ok_joined : fiOk sig cls false i_joined = true := by decide +kernel
theorem ok_outs_of_numbers : fiOk sig cls false i_outs_of_numbers = true := by decide +kernel
theorem ok_table_or : fiOk sig cls false i_table_or = true := by decide +kernel
theorem ok_table_then : fiOk sig cls false i_table_then = true := by decide +kernel
theorem ok_all_behind : fiOk sig cls false i_all_behind = true := by decide +kernel
theorem ok_table_again : fiOk sig cls false i_table_again = true := by decide +kernel
theorem ok_table_not : fiOk sig cls false i_table_not = true := by decide +kernel
theorem ok_test_table : fiOk sig cls false i_test_table = true := by decide +kernel
theorem ok_put_table : fiOk sig cls false i_put_table = true := by decide +kernel
theorem ok_table_of_sign : fiOk sig cls false i_table_of_sign = true := by decide +kernel
theorem ok_told_table : fiOk sig cls false i_told_table = true := by decide +kernel
theorem ok_is_outs : fiOk sig cls false i_is_outs = true := by decide +kernel
theorem ok_is_table : fiOk sig cls false i_is_table = true := by decide +kernel
theorem ok_count_states : fiOk sig cls false i_count_states = true := by decide +kernel
theorem ok_copied_tables : fiOk sig cls false i_copied_tables = true := by decide +kernel
theorem ok_drops : fiOk sig cls false i_drops = true := by decide +kernel
theorem ok_machine_of_table : fiOk sig cls false i_machine_of_table = true := by decide +kernel
theorem ok_halt_machine : fiOk sig cls false i_halt_machine = true := by decide +kernel
theorem ok_rows_behind : fiOk sig cls false i_rows_behind = true := by decide +kernel
theorem ok_machine_or : fiOk sig cls false i_machine_or = true := by decide +kernel
theorem ok_machine_then : fiOk sig cls false i_machine_then = true := by decide +kernel
theorem ok_machine_again : fiOk sig cls false i_machine_again = true := by decide +kernel
theorem ok_told_machine : fiOk sig cls false i_told_machine = true := by decide +kernel
theorem ok_machine_of : fiOk sig cls false i_machine_of = true := by decide +kernel
theorem ok_do_fit : fiOk sig cls false i_do_fit = true := by decide +kernel
theorem ok_check_machine : fiOk sig cls false i_check_machine = true := by decide +kernel
theorem ok__law_feed : fiOk sig cls false i__law_feed = true := by decide +kernel
theorem ok__law_draw : fiOk sig cls false i__law_draw = true := by decide +kernel
theorem ok__law_name : fiOk sig cls false i__law_name = true := by decide +kernel
theorem ok__law_fields : fiOk sig cls false i__law_fields = true := by decide +kernel
theorem ok__law_pair : fiOk sig cls false i__law_pair = true := by decide +kernel
theorem ok__law_test : fiOk sig cls false i__law_test = true := by decide +kernel
theorem ok__law_policy : fiOk sig cls false i__law_policy = true := by decide +kernel
theorem ok__law_same : fiOk sig cls false i__law_same = true := by decide +kernel
theorem ok__law_anew : fiOk sig cls false i__law_anew = true := by decide +kernel
theorem ok__law_many : fiOk sig cls false i__law_many = true := by decide +kernel
theorem ok__law_some_table : fiOk sig cls false i__law_some_table = true := by decide +kernel
theorem ok__law_drop : fiOk sig cls false i__law_drop = true := by decide +kernel
theorem ok__law_some_machine : fiOk sig cls false i__law_some_machine = true := by decide +kernel
theorem ok__law_is_table : fiOk sig cls false i__law_is_table = true := by decide +kernel
theorem ok__law_fault : fiOk sig cls false i__law_fault = true := by decide +kernel
theorem ok__law_told : fiOk sig cls false i__law_told = true := by decide +kernel
theorem ok__law_no_table : fiOk sig cls false i__law_no_table = true := by decide +kernel
theorem ok__law_bent : fiOk sig cls false i__law_bent = true := by decide +kernel
theorem ok__law_right : fiOk sig cls false i__law_right = true := by decide +kernel
theorem ok__law_bent_again : fiOk sig cls false i__law_bent_again = true := by decide +kernel
theorem ok_law : fiOk sig cls false i_law = true := by decide +kernel
end P50

set_option Elab.async false
set_option maxRecDepth 100000
namespace P50
open PySem Vf
theorem b_product_of : BindsAt (Str.ofString "product_of") i_product_of.st i_product_of.ps := fun _ _ _ _ _ _ us hl => match us, hl with | [_], _ => rfl
theorem b_count_parcels : BindsAt (Str.ofString "count_parcels") i_count_parcels.st i_count_parcels.ps := fun _ _ _ _ _ _ us hl => match us, hl with | [_], _ => rfl
theorem b_all_parcels : BindsAt (Str.ofString "all_parcels") i_all_parcels.st i_all_parcels.ps := fun _ _ _ _ _ _ us hl => match us, hl with | [_], _ => rfl
theorem b_number_of_parcel : BindsAt (Str.ofString "number_of_parcel") i_number_of_parcel.st i_number_of_parcel.ps := fun _ _ _ _ _ _ us hl => match us, hl with | [_, _], _ => rfl
theorem b_with_worth : BindsAt (Str.ofString "with_worth") i_with_worth.st i_with_worth.ps := fun _ _ _ _ _ _ us hl => match us, hl with | [_, _, _], _ => rfl
theorem b_is_whole : BindsAt (Str.ofString "is_whole") i_is_whole.st i_is_whole.ps := fun _ _ _ _ _ _ us hl => match us, hl with | [_], _ => rfl
theorem b_are_wholes : BindsAt (Str.ofString "are_wholes") i_are_wholes.st i_are_wholes.ps := fun _ _ _ _ _ _ us hl => match us, hl with | [_], _ => rfl
theorem b_are_between : BindsAt (Str.ofString "are_between") i_are_between.st i_are_between.ps := fun _ _ _ _ _ _ us hl => match us, hl with | [_, _, _], _ => rfl
theorem b_is_rising : BindsAt (Str.ofString "is_rising") i_is_rising.st i_is_rising.ps := fun _ _ _ _ _ _ us hl => match us, hl with | [_], _ => rfl
theorem b_parts_ahead : BindsAt (Str.ofString "parts_ahead") i_parts_ahead.st i_parts_ahead.ps := fun _ _ _ _ _ _ us hl => match us, hl with | [_], _ => rfl
theorem b_has_halt : BindsAt (Str.ofString "has_halt") i_has_halt.st i_has_halt.ps := fun _ _ _ _ _ _ us hl => match us, hl with | [_], _ => rfl
theorem b_count_halts : BindsAt (Str.ofString "count_halts") i_count_halts.st i_count_halts.ps := fun _ _ _ _ _ _ us hl => match us, hl with | [_], _ => rfl
theorem b_pass_table : BindsAt (Str.ofString "pass_table") i_pass_table.st i_pass_table.ps := fun _ _ _ _ _ _ us hl => match us, hl with | [_], _ => rfl
theorem b_drop_table : BindsAt (Str.ofString "drop_table") i_drop_table.st i_drop_table.ps := fun _ _ _ _ _ _ us hl => match us, hl with | [_], _ => rfl
theorem b_copied_table : BindsAt (Str.ofString "copied_table") i_copied_table.st i_copied_table.ps := fun _ _ _ _ _ _ us hl => match us, hl with | [_], _ => rfl
theorem b_joined : BindsAt (Str.ofString "joined") i_joined.st i_joined.ps := fun _ _ _ _ _ _ us hl => match us, hl with | [_, _], _ => rfl
theorem b_outs_of_numbers : BindsAt (Str.ofString "outs_of_numbers") i_outs_of_numbers.st i_outs_of_numbers.ps := fun _ _ _ _ _ _ us hl => match us, hl with | [_, _], _ => rfl
theorem b_table_or : BindsAt (Str.ofString "table_or") i_table_or.st i_table_or.ps := fun _ _ _ _ _ _ us hl => match us, hl with | [_, _], _ => rfl
theorem b_table_then : BindsAt (Str.ofString "table_then") i_table_then.st i_table_then.ps := fun _ _ _ _ _ _ us hl => match us, hl with | [_, _], _ => rfl
theorem b_all_behind : BindsAt (Str.ofString "all_behind") i_all_behind.st i_all_behind.ps := fun _ _ _ _ _ _ us hl => match us, hl with | [_, _], _ => rfl
theorem b_table_again : BindsAt (Str.ofString "table_again") i_table_again.st i_table_again.ps := fun _ _ _ _ _ _ us hl => match us, hl with | [_], _ => rfl
theorem b_table_not : BindsAt (Str.ofString "table_not") i_table_not.st i_table_not.ps := fun _ _ _ _ _ _ us hl => match us, hl with | [_], _ => rfl
theorem b_test_table : BindsAt (Str.ofString "test_table") i_test_table.st i_test_table.ps := fun _ _ _ _ _ _ us hl => match us, hl with | [_, _, _], _ => rfl
theorem b_put_table : BindsAt (Str.ofString "put_table") i_put_table.st i_put_table.ps := fun _ _ _ _ _ _ us hl => match us, hl with | [_, _, _], _ => rfl
theorem b_table_of_sign : BindsAt (Str.ofString "table_of_sign") i_table_of_sign.st i_table_of_sign.ps := fun _ _ _ _ _ _ us hl => match us, hl with | [_, _], _ => rfl
theorem b_told_table : BindsAt (Str.ofString "told_table") i_told_table.st i_told_table.ps := fun _ _ _ _ _ _ us hl => match us, hl with | [_, _], _ => rfl
theorem b_is_outs : BindsAt (Str.ofString "is_outs") i_is_outs.st i_is_outs.ps := fun _ _ _ _ _ _ us hl => match us, hl with | [_, _], _ => rfl
theorem b_is_table : BindsAt (Str.ofString "is_table") i_is_table.st i_is_table.ps := fun _ _ _ _ _ _ us hl => match us, hl with | [_, _], _ => rfl
theorem b_count_states : BindsAt (Str.ofString "count_states") i_count_states.st i_count_states.ps := fun _ _ _ _ _ _ us hl => match us, hl with | [_], _ => rfl
theorem b_copied_tables : BindsAt (Str.ofString "copied_tables") i_copied_tables.st i_copied_tables.ps := fun _ _ _ _ _ _ us hl => match us, hl with | [_], _ => rfl
theorem b_drops : BindsAt (Str.ofString "drops") i_drops.st i_drops.ps := fun _ _ _ _ _ _ us hl => match us, hl with | [_, _], _ => rfl
theorem b_machine_of_table : BindsAt (Str.ofString "machine_of_table") i_machine_of_table.st i_machine_of_table.ps := fun _ _ _ _ _ _ us hl => match us, hl with | [_], _ => rfl
theorem b_halt_machine : BindsAt (Str.ofString "halt_machine") i_halt_machine.st i_halt_machine.ps := fun _ _ _ _ _ _ us hl => match us, hl with | [_], _ => rfl
theorem b_rows_behind : BindsAt (Str.ofString "rows_behind") i_rows_behind.st i_rows_behind.ps := fun _ _ _ _ _ _ us hl => match us, hl with | [_, _], _ => rfl
theorem b_machine_or : BindsAt (Str.ofString "machine_or") i_machine_or.st i_machine_or.ps := fun _ _ _ _ _ _ us hl => match us, hl with | [_, _], _ => rfl
theorem b_machine_then : BindsAt (Str.ofString "machine_then") i_machine_then.st i_machine_then.ps := fun _ _ _ _ _ _ us hl => match us, hl with | [_, _], _ => rfl
theorem b_machine_again : BindsAt (Str.ofString "machine_again") i_machine_again.st i_machine_again.ps := fun _ _ _ _ _ _ us hl => match us, hl with | [_], _ => rfl
theorem b_told_machine : BindsAt (Str.ofString "told_machine") i_told_machine.st i_told_machine.ps := fun _ _ _ _ _ _ us hl => match us, hl with | [_, _], _ => rfl
theorem b_machine_of : BindsAt (Str.ofString "machine_of") i_machine_of.st i_machine_of.ps := fun _ _ _ _ _ _ us hl => match us, hl with | [_, _], _ => rfl
theorem b_do_fit : BindsAt (Str.ofString "do_fit") i_do_fit.st i_do_fit.ps := fun _ _ _ _ _ _ us hl => match us, hl with | [_], _ => rfl
theorem b_check_machine : BindsAt (Str.ofString "check_machine") i_check_machine.st i_check_machine.ps := fun _ _ _ _ _ _ us hl => match us, hl with | [_, _], _ => rfl
theorem b__law_feed : BindsAt (Str.ofString "_law_feed") i__law_feed.st i__law_feed.ps := fun _ _ _ _ _ _ us hl => match us, hl with | [_], _ => rfl
theorem b__law_draw : BindsAt (Str.ofString "_law_draw") i__law_draw.st i__law_draw.ps := fun _ _ _ _ _ _ us hl => match us, hl with | [_, _], _ => rfl
theorem b__law_name : BindsAt (Str.ofString "_law_name") i__law_name.st i__law_name.ps := fun _ _ _ _ _ _ us hl => match us, hl with | [_], _ => rfl
theorem b__law_fields : BindsAt (Str.ofString "_law_fields") i__law_fields.st i__law_fields.ps := fun _ _ _ _ _ _ us hl => match us, hl with | [_, _], _ => rfl
theorem b__law_pair : BindsAt (Str.ofString "_law_pair") i__law_pair.st i__law_pair.ps := fun _ _ _ _ _ _ us hl => match us, hl with | [_, _], _ => rfl
theorem b__law_test : BindsAt (Str.ofString "_law_test") i__law_test.st i__law_test.ps := fun _ _ _ _ _ _ us hl => match us, hl with | [_, _, _], _ => rfl
theorem b__law_policy : BindsAt (Str.ofString "_law_policy") i__law_policy.st i__law_policy.ps := fun _ _ _ _ _ _ us hl => match us, hl with | [_, _, _, _], _ => rfl
theorem b__law_same : BindsAt (Str.ofString "_law_same") i__law_same.st i__law_same.ps := fun _ _ _ _ _ _ us hl => match us, hl with | [_, _], _ => rfl
theorem b__law_anew : BindsAt (Str.ofString "_law_anew") i__law_anew.st i__law_anew.ps := fun _ _ _ _ _ _ us hl => match us, hl with | [_], _ => rfl
theorem b__law_many : BindsAt (Str.ofString "_law_many") i__law_many.st i__law_many.ps := fun _ _ _ _ _ _ us hl => match us, hl with | [_], _ => rfl
theorem b__law_some_table : BindsAt (Str.ofString "_law_some_table") i__law_some_table.st i__law_some_table.ps := fun _ _ _ _ _ _ us hl => match us, hl with | [_, _, _], _ => rfl
theorem b__law_drop : BindsAt (Str.ofString "_law_drop") i__law_drop.st i__law_drop.ps := fun _ _ _ _ _ _ us hl => match us, hl with | [_], _ => rfl
theorem b__law_some_machine : BindsAt (Str.ofString "_law_some_machine") i__law_some_machine.st i__law_some_machine.ps := fun _ _ _ _ _ _ us hl => match us, hl with | [_, _, _, _], _ => rfl
theorem b__law_is_table : BindsAt (Str.ofString "_law_is_table") i__law_is_table.st i__law_is_table.ps := fun _ _ _ _ _ _ us hl => match us, hl with | [_, _], _ => rfl
theorem b__law_fault : BindsAt (Str.ofString "_law_fault") i__law_fault.st i__law_fault.ps := fun _ _ _ _ _ _ us hl => match us, hl with | [_, _], _ => rfl
theorem b__law_told : BindsAt (Str.ofString "_law_told") i__law_told.st i__law_told.ps := fun _ _ _ _ _ _ us hl => match us, hl with | [_, _], _ => rfl
theorem b__law_no_table : BindsAt (Str.ofString "_law_no_table") i__law_no_table.st i__law_no_table.ps := fun _ _ _ _ _ _ us hl => match us, hl with | [_, _, _], _ => rfl
theorem b__law_bent : BindsAt (Str.ofString "_law_bent") i__law_bent.st i__law_bent.ps := fun _ _ _ _ _ _ us hl => match us, hl with | [_, _, _], _ => rfl
theorem b__law_right : BindsAt (Str.ofString "_law_right") i__law_right.st i__law_right.ps := fun _ _ _ _ _ _ us hl => match us, hl with | [_, _, _], _ => rfl
theorem b__law_bent_again : BindsAt (Str.ofString "_law_bent_again") i__law_bent_again.st i__law_bent_again.ps := fun _ _ _ _ _ _ us hl => match us, hl with | [_, _, _], _ => rfl
theorem b_law : BindsAt (Str.ofString "law") i_law.st i_law.ps := fun _ _ _ _ _ _ us hl => match us, hl with | [_], _ => rfl
theorem okAll : ∀ q ∈ T1, fiOk sig cls false q.2 = true := (List.forall_mem_cons.mpr ⟨ok_product_of, (List.forall_mem_cons.mpr ⟨ok_count_parcels, (List.forall_mem_cons.mpr ⟨ok_all_parcels, (List.forall_mem_cons.mpr ⟨ok_number_of_parcel, (List.forall_mem_cons.mpr ⟨ok_with_worth, (List.forall_mem_cons.mpr ⟨ok_is_whole, (List.forall_mem_cons.mpr ⟨ok_are_wholes, (List.forall_mem_cons.mpr ⟨ok_are_between, (List.forall_mem_cons.mpr ⟨ok_is_rising, (List.forall_mem_cons.mpr ⟨ok_parts_ahead, (List.forall_mem_cons.mpr ⟨ok_has_halt, (List.forall_mem_cons.mpr ⟨ok_count_halts, (List.forall_mem_cons.mpr ⟨ok_pass_table, (List.forall_mem_cons.mpr ⟨ok_drop_table, (List.forall_mem_cons.mpr ⟨ok_copied_table, (List.forall_mem_cons.mpr ⟨ok_joined, (List.forall_mem_cons.mpr ⟨ok_outs_of_numbers, (List.forall_mem_cons.mpr ⟨ok_table_or, (List.forall_mem_cons.mpr ⟨ok_table_then, (List.forall_mem_cons.mpr ⟨ok_all_behind, (List.forall_mem_cons.mpr ⟨ok_table_again, (List.forall_mem_cons.mpr ⟨ok_table_not, (List.forall_mem_cons.mpr ⟨ok_test_table, (List.forall_mem_cons.mpr ⟨ok_put_table, (List.forall_mem_cons.mpr ⟨ok_table_of_sign, (List.forall_mem_cons.mpr ⟨ok_told_table, (List.forall_mem_cons.mpr ⟨ok_is_outs, (List.forall_mem_cons.mpr ⟨ok_is_table, (List.forall_mem_cons.mpr ⟨ok_count_states, (List.forall_mem_cons.mpr ⟨ok_copied_tables, (List.forall_mem_cons.mpr ⟨ok_drops, (List.forall_mem_cons.mpr ⟨ok_machine_of_table, (List.forall_mem_cons.mpr ⟨ok_halt_machine, (List.forall_mem_cons.mpr ⟨ok_rows_behind, (List.forall_mem_cons.mpr ⟨ok_machine_or, (List.forall_mem_cons.mpr ⟨ok_machine_then, (List.forall_mem_cons.mpr ⟨ok_machine_again, (List.forall_mem_cons.mpr ⟨ok_told_machine, (List.forall_mem_cons.mpr ⟨ok_machine_of, (List.forall_mem_cons.mpr ⟨ok_do_fit, (List.forall_mem_cons.mpr ⟨ok_check_machine, (List.forall_mem_cons.mpr ⟨ok__law_feed, (List.forall_mem_cons.mpr ⟨ok__law_draw, (List.forall_mem_cons.mpr ⟨ok__law_name, (List.forall_mem_cons.mpr ⟨ok__law_fields, (List.forall_mem_cons.mpr ⟨ok__law_pair, (List.forall_mem_cons.mpr ⟨ok__law_test, (List.forall_mem_cons.mpr ⟨ok__law_policy, (List.forall_mem_cons.mpr ⟨ok__law_same, (List.forall_mem_cons.mpr ⟨ok__law_anew, (List.forall_mem_cons.mpr ⟨ok__law_many, (List.forall_mem_cons.mpr ⟨ok__law_some_table, (List.forall_mem_cons.mpr ⟨ok__law_drop, (List.forall_mem_cons.mpr ⟨ok__law_some_machine, (List.forall_mem_cons.mpr ⟨ok__law_is_table, (List.forall_mem_cons.mpr ⟨ok__law_fault, (List.forall_mem_cons.mpr ⟨ok__law_told, (List.forall_mem_cons.mpr ⟨ok__law_no_table, (List.forall_mem_cons.mpr ⟨ok__law_bent, (List.forall_mem_cons.mpr ⟨ok__law_right, (List.forall_mem_cons.mpr ⟨ok__law_bent_again, (List.forall_mem_cons.mpr ⟨ok_law, (fun _ z => by cases z)⟩)⟩)⟩)⟩)⟩)⟩)⟩)⟩)⟩)⟩)⟩)⟩)⟩)⟩)⟩)⟩)⟩)⟩)⟩)⟩)⟩)⟩)⟩)⟩)⟩)⟩)⟩)⟩)⟩)⟩)⟩)⟩)⟩)⟩)⟩)⟩)⟩)⟩)⟩)⟩)⟩)⟩)⟩)⟩)⟩)⟩)⟩)⟩)⟩)⟩)⟩)⟩)⟩)⟩)⟩)⟩)⟩)⟩)⟩)⟩)⟩)⟩)
theorem defAll {K : W.Frag} (d_product_of : DefAt K (Str.ofString "product_of") (top 7)) (d_count_parcels : DefAt K (Str.ofString "count_parcels") (top 8)) (d_all_parcels : DefAt K (Str.ofString "all_parcels") (top 9)) (d_number_of_parcel : DefAt K (Str.ofString "number_of_parcel") (top 10)) (d_with_worth : DefAt K (Str.ofString "with_worth") (top 11)) (d_is_whole : DefAt K (Str.ofString "is_whole") (top 13)) (d_are_wholes : DefAt K (Str.ofString "are_wholes") (top 14)) (d_are_between : DefAt K (Str.ofString "are_between") (top 15)) (d_is_rising : DefAt K (Str.ofString "is_rising") (top 16)) (d_parts_ahead : DefAt K (Str.ofString "parts_ahead") (top 28)) (d_has_halt : DefAt K (Str.ofString "has_halt") (top 29)) (d_count_halts : DefAt K (Str.ofString "count_halts") (top 30)) (d_pass_table : DefAt K (Str.ofString "pass_table") (top 32)) (d_drop_table : DefAt K (Str.ofString "drop_table") (top 33)) (d_copied_table : DefAt K (Str.ofString "copied_table") (top 34)) (d_joined : DefAt K (Str.ofString "joined") (top 35)) (d_outs_of_numbers : DefAt K (Str.ofString "outs_of_numbers") (top 36)) (d_table_or : DefAt K (Str.ofString "table_or") (top 37)) (d_table_then : DefAt K (Str.ofString "table_then") (top 38)) (d_all_behind : DefAt K (Str.ofString "all_behind") (top 39)) (d_table_again : DefAt K (Str.ofString "table_again") (top 40)) (d_table_not : DefAt K (Str.ofString "table_not") (top 41)) (d_test_table : DefAt K (Str.ofString "test_table") (top 42)) (d_put_table : DefAt K (Str.ofString "put_table") (top 43)) (d_table_of_sign : DefAt K (Str.ofString "table_of_sign") (top 44)) (d_told_table : DefAt K (Str.ofString "told_table") (top 45)) (d_is_outs : DefAt K (Str.ofString "is_outs") (top 46)) (d_is_table : DefAt K (Str.ofString "is_table") (top 47)) (d_count_states : DefAt K (Str.ofString "count_states") (top 50)) (d_copied_tables : DefAt K (Str.ofString "copied_tables") (top 51)) (d_drops : DefAt K (Str.ofString "drops") (top 52)) (d_machine_of_table : DefAt K (Str.ofString "machine_of_table") (top 53)) (d_halt_machine : DefAt K (Str.ofString "halt_machine") (top 54)) (d_rows_behind : DefAt K (Str.ofString "rows_behind") (top 55)) (d_machine_or : DefAt K (Str.ofString "machine_or") (top 56)) (d_machine_then : DefAt K (Str.ofString "machine_then") (top 57)) (d_machine_again : DefAt K (Str.ofString "machine_again") (top 58)) (d_told_machine : DefAt K (Str.ofString "told_machine") (top 59)) (d_machine_of : DefAt K (Str.ofString "machine_of") (top 60)) (d_do_fit : DefAt K (Str.ofString "do_fit") (top 61)) (d_check_machine : DefAt K (Str.ofString "check_machine") (top 62)) (d__law_feed : DefAt K (Str.ofString "_law_feed") (top 64)) (d__law_draw : DefAt K (Str.ofString "_law_draw") (top 65)) (d__law_name : DefAt K (Str.ofString "_law_name") (top 66)) (d__law_fields : DefAt K (Str.ofString "_law_fields") (top 67)) (d__law_pair : DefAt K (Str.ofString "_law_pair") (top 68)) (d__law_test : DefAt K (Str.ofString "_law_test") (top 69)) (d__law_policy : DefAt K (Str.ofString "_law_policy") (top 70)) (d__law_same : DefAt K (Str.ofString "_law_same") (top 71)) (d__law_anew : DefAt K (Str.ofString "_law_anew") (top 72)) (d__law_many : DefAt K (Str.ofString "_law_many") (top 73)) (d__law_some_table : DefAt K (Str.ofString "_law_some_table") (top 74)) (d__law_drop : DefAt K (Str.ofString "_law_drop") (top 75)) (d__law_some_machine : DefAt K (Str.ofString "_law_some_machine") (top 76)) (d__law_is_table : DefAt K (Str.ofString "_law_is_table") (top 77)) (d__law_fault : DefAt K (Str.ofString "_law_fault") (top 78)) (d__law_told : DefAt K (Str.ofString "_law_told") (top 79)) (d__law_no_table : DefAt K (Str.ofString "_law_no_table") (top 80)) (d__law_bent : DefAt K (Str.ofString "_law_bent") (top 81)) (d__law_right : DefAt K (Str.ofString "_law_right") (top 82)) (d__law_bent_again : DefAt K (Str.ofString "_law_bent_again") (top 83)) (d_law : DefAt K (Str.ofString "law") (top 84)) : ∀ q ∈ T1, DefAt K q.1 q.2.st ∧ BindsAt q.1 q.2.st q.2.ps := (List.forall_mem_cons.mpr ⟨⟨d_product_of, b_product_of⟩, (List.forall_mem_cons.mpr ⟨⟨d_count_parcels, b_count_parcels⟩, (List.forall_mem_cons.mpr ⟨⟨d_all_parcels, b_all_parcels⟩, (List.forall_mem_cons.mpr ⟨⟨d_number_of_parcel, b_number_of_parcel⟩, (List.forall_mem_cons.mpr ⟨⟨d_with_worth, b_with_worth⟩, (List.forall_mem_cons.mpr ⟨⟨d_is_whole, b_is_whole⟩, (List.forall_mem_cons.mpr ⟨⟨d_are_wholes, b_are_wholes⟩, (List.forall_mem_cons.mpr ⟨⟨d_are_between, b_are_between⟩, (List.forall_mem_cons.mpr ⟨⟨d_is_rising, b_is_rising⟩, (List.forall_mem_cons.mpr ⟨⟨d_parts_ahead, b_parts_ahead⟩, (List.forall_mem_cons.mpr ⟨⟨d_has_halt, b_has_halt⟩, (List.forall_mem_cons.mpr ⟨⟨d_count_halts, b_count_halts⟩, (List.forall_mem_cons.mpr ⟨⟨d_pass_table, b_pass_table⟩, (List.forall_mem_cons.mpr ⟨⟨d_drop_table, b_drop_table⟩, (List.forall_mem_cons.mpr ⟨⟨d_copied_table, b_copied_table⟩, (List.forall_mem_cons.mpr ⟨⟨d_joined, b_joined⟩, (List.forall_mem_cons.mpr ⟨⟨d_outs_of_numbers, b_outs_of_numbers⟩, (List.forall_mem_cons.mpr ⟨⟨d_table_or, b_table_or⟩, (List.forall_mem_cons.mpr ⟨⟨d_table_then, b_table_then⟩, (List.forall_mem_cons.mpr ⟨⟨d_all_behind, b_all_behind⟩, (List.forall_mem_cons.mpr ⟨⟨d_table_again, b_table_again⟩, (List.forall_mem_cons.mpr ⟨⟨d_table_not, b_table_not⟩, (List.forall_mem_cons.mpr ⟨⟨d_test_table, b_test_table⟩, (List.forall_mem_cons.mpr ⟨⟨d_put_table, b_put_table⟩, (List.forall_mem_cons.mpr ⟨⟨d_table_of_sign, b_table_of_sign⟩, (List.forall_mem_cons.mpr ⟨⟨d_told_table, b_told_table⟩, (List.forall_mem_cons.mpr ⟨⟨d_is_outs, b_is_outs⟩, (List.forall_mem_cons.mpr ⟨⟨d_is_table, b_is_table⟩, (List.forall_mem_cons.mpr ⟨⟨d_count_states, b_count_states⟩, (List.forall_mem_cons.mpr ⟨⟨d_copied_tables, b_copied_tables⟩, (List.forall_mem_cons.mpr ⟨⟨d_drops, b_drops⟩, (List.forall_mem_cons.mpr ⟨⟨d_machine_of_table, b_machine_of_table⟩, (List.forall_mem_cons.mpr ⟨⟨d_halt_machine, b_halt_machine⟩, (List.forall_mem_cons.mpr ⟨⟨d_rows_behind, b_rows_behind⟩, (List.forall_mem_cons.mpr ⟨⟨d_machine_or, b_machine_or⟩, (List.forall_mem_cons.mpr ⟨⟨d_machine_then, b_machine_then⟩, (List.forall_mem_cons.mpr ⟨⟨d_machine_again, b_machine_again⟩, (List.forall_mem_cons.mpr ⟨⟨d_told_machine, b_told_machine⟩, (List.forall_mem_cons.mpr ⟨⟨d_machine_of, b_machine_of⟩, (List.forall_mem_cons.mpr ⟨⟨d_do_fit, b_do_fit⟩, (List.forall_mem_cons.mpr ⟨⟨d_check_machine, b_check_machine⟩, (List.forall_mem_cons.mpr ⟨⟨d__law_feed, b__law_feed⟩, (List.forall_mem_cons.mpr ⟨⟨d__law_draw, b__law_draw⟩, (List.forall_mem_cons.mpr ⟨⟨d__law_name, b__law_name⟩, (List.forall_mem_cons.mpr ⟨⟨d__law_fields, b__law_fields⟩, (List.forall_mem_cons.mpr ⟨⟨d__law_pair, b__law_pair⟩, (List.forall_mem_cons.mpr ⟨⟨d__law_test, b__law_test⟩, (List.forall_mem_cons.mpr ⟨⟨d__law_policy, b__law_policy⟩, (List.forall_mem_cons.mpr ⟨⟨d__law_same, b__law_same⟩, (List.forall_mem_cons.mpr ⟨⟨d__law_anew, b__law_anew⟩, (List.forall_mem_cons.mpr ⟨⟨d__law_many, b__law_many⟩, (List.forall_mem_cons.mpr ⟨⟨d__law_some_table, b__law_some_table⟩, (List.forall_mem_cons.mpr ⟨⟨d__law_drop, b__law_drop⟩, (List.forall_mem_cons.mpr ⟨⟨d__law_some_machine, b__law_some_machine⟩, (List.forall_mem_cons.mpr ⟨⟨d__law_is_table, b__law_is_table⟩, (List.forall_mem_cons.mpr ⟨⟨d__law_fault, b__law_fault⟩, (List.forall_mem_cons.mpr ⟨⟨d__law_told, b__law_told⟩, (List.forall_mem_cons.mpr ⟨⟨d__law_no_table, b__law_no_table⟩, (List.forall_mem_cons.mpr ⟨⟨d__law_bent, b__law_bent⟩, (List.forall_mem_cons.mpr ⟨⟨d__law_right, b__law_right⟩, (List.forall_mem_cons.mpr ⟨⟨d__law_bent_again, b__law_bent_again⟩, (List.forall_mem_cons.mpr ⟨⟨d_law, b_law⟩, (fun _ z => by cases z)⟩)⟩)⟩)⟩)⟩)⟩)⟩)⟩)⟩)⟩)⟩)⟩)⟩)⟩)⟩)⟩)⟩)⟩)⟩)⟩)⟩)⟩)⟩)⟩)⟩)⟩)⟩)⟩)⟩)⟩)⟩)⟩)⟩)⟩)⟩)⟩)⟩)⟩)⟩)⟩)⟩)⟩)⟩)⟩)⟩)⟩)⟩)⟩)⟩)⟩)⟩)⟩)⟩)⟩)⟩)⟩)⟩)⟩)⟩)⟩)⟩)⟩)
theorem tabEq : tab = T1.map fun q => (q.1, q.2.fn) := rfl
theorem sigEq : sig = T1.map fun q => (q.1, q.2.fn.np) := rfl
def iniS : Stmt := clsIni (top 3)
theorem iniOk : iniC [Str.ofString "self", Str.ofString "i", Str.ofString "j"] iniS [Str.ofString "i", Str.ofString "j"] = true := by decide +kernel
end P50

set_option autoImplicit false
set_option linter.all false
set_option maxRecDepth 100000
set_option maxHeartbeats 1000000
namespace Vf.Q
open PySem
/-! W0 -/
/-! W0: what a computation of the evaluator ends with, rules. -/

theorem kp {α : Type} {a b : α} (h : a = b) : a = b := h
theorem kpP {a b : Prop} (h : a = b) : a = b := h
@[irreducible] def Wp {α : Type} (m : M α) (μ : Sto) (Q : α → Sto → Prop) (X : Str → List D → Sto → Prop) : Prop :=
  match m μ with
  | .ok a μ' => Q a μ'
  | .exc c fs μ' => X c fs μ'
  | .bad => False
theorem wp_congr {α : Type} {m m' : M α} {μ : Sto} {Q : α → Sto → Prop} {X : Str → List D → Sto → Prop} (h : m = m') : Wp m μ Q X = Wp m' μ Q X := by rw [h]
section
variable {α β : Type} {m : M α} {μ : Sto} {Q Q' : α → Sto → Prop} {X X' : Str → List D → Sto → Prop}
theorem wp_ret {a : α} : Wp (M.ret a) μ Q X = Q a μ := by with_unfolding_all rfl
theorem wp_bad : Wp (M.bad : M α) μ Q X = False := by with_unfolding_all rfl
theorem wp_bind {f : α → M β} {Q : β → Sto → Prop} : Wp (M.bind m f) μ Q X = Wp m μ (fun a μ' => Wp (f a) μ' Q X) X := by
  unfold Wp M.bind
  cases m μ <;> rfl
theorem wp_guard {b : Bool} : Wp (guard' b m) μ Q X = (b = true ∧ Wp m μ Q X) := by
  cases b <;> simp [guard', wp_bad]
theorem wp_some {a : α} : Wp (ofO (some a)) μ Q X = Q a μ := by with_unfolding_all rfl
theorem wp_none : Wp (ofO (none : Option α)) μ Q X = False := by with_unfolding_all rfl
theorem wp_exc {c : Str} {fs : List D} : Wp (M.exc c fs : M α) μ Q X = X c fs μ := by with_unfolding_all rfl
def nX : Str → List D → Sto → Prop := fun _ _ _ => False
theorem wp_nox : Wp (nox m) μ Q X = Wp m μ Q nX := by
  unfold Wp nox nX
  cases m μ <;> rfl
theorem Wp.mono (h : Wp m μ Q X) (f : ∀ a μ', Q a μ' → Q' a μ') : Wp m μ Q' X := by
  unfold Wp at *
  cases hm : m μ <;> simp only [hm] at h ⊢
  · exact f _ _ h
  · exact h
theorem Wp.monoX (h : Wp m μ Q nX) (f : ∀ a μ', Q a μ' → Q' a μ') : Wp m μ Q' X := by
  unfold Wp at *
  cases hm : m μ <;> simp only [hm] at h ⊢
  · exact f _ _ h
  · exact h.elim
theorem wp_ok {a : α} {μ' : Sto} (h : m μ = .ok a μ') : Wp m μ Q X = Q a μ' := by
  unfold Wp; rw [h]
theorem Wp.of_ok {a : α} {μ' : Sto} (h : m μ = .ok a μ') (q : Q a μ') : Wp m μ Q X := by
  rw [wp_ok h]; exact q
theorem Wp.get (h : Wp m μ Q nX) : ∃ a μ', m μ = .ok a μ' ∧ Q a μ' := by
  unfold Wp at h
  cases hm : m μ <;> simp only [hm] at h
  · exact ⟨_, _, rfl, h⟩
  · exact h.elim
end

/-! ### expressions -/
section
variable {Φ : Cfg} {ρ : Env} {μ : Sto} {Q : D → Sto → Prop} {X : Str → List D → Sto → Prop}
/-- an operand -/
def Op (Φ : Cfg) (a : E) (ρ : Env) : M D := M.bind (evE Φ a ρ) (opnd (isBrw a))
theorem w_var {i : Nat} : Wp (evE Φ (.var i) ρ) μ Q X = Wp (match ρ[i]? with
    | some (some d) => guard' d.nb (M.ret d)
    | _ => M.bad) μ Q X := by with_unfolding_all rfl
theorem w_brw {i : Nat} : Wp (evE Φ (.brw i) ρ) μ Q X = Wp (match ρ[i]? with
    | some (some d) => M.ret d
    | _ => M.bad) μ Q X := by with_unfolding_all rfl
theorem w_non : Wp (evE Φ .non ρ) μ Q X = Q .non μ := by with_unfolding_all rfl
theorem w_bl {b : Bool} : Wp (evE Φ (.bl b) ρ) μ Q X = Q (.bl b) μ := by with_unfolding_all rfl
theorem w_int {i : Int} : Wp (evE Φ (.int i) ρ) μ Q X = Q (.int i) μ := by with_unfolding_all rfl
theorem w_str {x : Str} : Wp (evE Φ (.str x) ρ) μ Q X = Q (.str x) μ := by with_unfolding_all rfl
theorem w_glob {x : Str} : Wp (evE Φ (.glob x) ρ) μ Q X = Wp (ofO (Φ.gl x)) μ Q X := by with_unfolding_all rfl
theorem w_opv {i : Nat} : Wp (Op Φ (.var i) ρ) μ Q X = Wp (match ρ[i]? with
    | some (some d) => guard' d.nb (M.ret d.fz)
    | _ => M.bad) μ Q X := by
  unfold Op
  rw [wp_bind, w_var]
  cases h : ρ[i]? with
  | none => with_unfolding_all rfl
  | some d => cases d with
    | none => with_unfolding_all rfl
    | some d => simp only [wp_guard, wp_ret, isBrw, opnd]
theorem w_opb {i : Nat} : Wp (Op Φ (.brw i) ρ) μ Q X = Wp (match ρ[i]? with
    | some (some d) => guard' d.inb (M.ret d)
    | _ => M.bad) μ Q X := by
  unfold Op
  rw [wp_bind, w_brw]
  cases h : ρ[i]? with
  | none => with_unfolding_all rfl
  | some d => cases d with
    | none => with_unfolding_all rfl
    | some d => simp only [wp_guard, wp_ret, isBrw, opnd]
theorem w_op {a : E} (h : isBrw a = false) : Wp (Op Φ a ρ) μ Q X = Wp (evE Φ a ρ) μ (fun d μ' => Q d.fz μ') X := by
  unfold Op
  rw [wp_bind, h]; with_unfolding_all rfl
theorem w_bin {op : Bop} {a b : E} : Wp (evE Φ (.bin op a b) ρ) μ Q X = Wp (Op Φ a ρ) μ (fun x μ1 => Wp (Op Φ b ρ) μ1 (fun y μ2 => Wp (binD op x y) μ2 Q X) X) X := by
  simp only [evE, wp_bind, Op]
  try rfl
theorem w_neg {a : E} : Wp (evE Φ (.neg a) ρ) μ Q X = Wp (evE Φ a ρ) μ (fun x μ1 => Wp (match x with | .int i => M.ret (.int (-i)) | _ => M.bad) μ1 Q X) X := by
  simp only [evE, wp_bind]
  try rfl
theorem w_not {a : E} : Wp (evE Φ (.not a) ρ) μ Q X = Wp (Op Φ a ρ) μ (fun x μ1 => Wp (tests x) μ1 (fun b μ2 => Q (.bl (!b)) μ2) X) X := by
  simp only [evE, wp_bind, Op, wp_ret]
  try rfl
def andK (Φ : Cfg) (b : E) (ρ : Env) (x : D) : Bool → M D
  | true => evE Φ b ρ
  | false => M.ret x
def orK (Φ : Cfg) (b : E) (ρ : Env) (x : D) : Bool → M D
  | true => M.ret x
  | false => evE Φ b ρ
theorem w_and {a b : E} : Wp (evE Φ (.and a b) ρ) μ Q X = Wp (evE Φ a ρ) μ (fun x μ1 => Wp (tests x) μ1 (fun t μ2 => Wp (andK Φ b ρ x t) μ2 Q X) X) X := by
  simp only [evE, wp_bind]
  try (first | rfl | (congr; funext x μ1; congr; funext t μ2; cases t <;> rfl))
theorem w_or {a b : E} : Wp (evE Φ (.or a b) ρ) μ Q X = Wp (evE Φ a ρ) μ (fun x μ1 => Wp (tests x) μ1 (fun t μ2 => Wp (orK Φ b ρ x t) μ2 Q X) X) X := by
  simp only [evE, wp_bind]
  try (first | rfl | (congr; funext x μ1; congr; funext t μ2; cases t <;> rfl))
theorem w_andT {b : E} {x : D} : Wp (andK Φ b ρ x true) μ Q X = Wp (evE Φ b ρ) μ Q X := by with_unfolding_all rfl
theorem w_andF {b : E} {x : D} : Wp (andK Φ b ρ x false) μ Q X = Q x μ := by with_unfolding_all rfl
theorem w_orT {b : E} {x : D} : Wp (orK Φ b ρ x true) μ Q X = Q x μ := by with_unfolding_all rfl
theorem w_orF {b : E} {x : D} : Wp (orK Φ b ρ x false) μ Q X = Wp (evE Φ b ρ) μ Q X := by with_unfolding_all rfl
theorem w_cmp {op : Cop} {a b : E} : Wp (evE Φ (.cmp op a b) ρ) μ Q X = Wp (Op Φ a ρ) μ (fun x μ1 => Wp (Op Φ b ρ) μ1 (fun y μ2 => Wp (cmpD op x y) μ2 Q X) X) X := by
  simp only [evE, wp_bind, Op]
  try rfl
def chK (Φ : Cfg) (op : Cop) (c : E) (ρ : Env) (y : D) : D → M D
  | .bl true => M.bind (Op Φ c ρ) fun z => cmpD op y z
  | .bl false => M.ret (.bl false)
  | _ => M.bad
theorem w_chain {op op' : Cop} {a b c : E} : Wp (evE Φ (.chain op op' a b c) ρ) μ Q X = Wp (Op Φ a ρ) μ (fun x μ1 => Wp (Op Φ b ρ) μ1 (fun y μ2 => Wp (cmpD op x y) μ2 (fun t μ3 => Wp (chK Φ op' c ρ y t) μ3 Q X) X) X) X := by
  simp only [evE, wp_bind, Op]
  try (first | rfl | (congr; funext d μ0; congr; funext x μ1; congr; funext d μ0; congr; funext y μ2; congr; funext t μ3))
  try (unfold chK; split <;> first | rfl | simp [*])
theorem w_chT {op : Cop} {c : E} {y : D} : Wp (chK Φ op c ρ y (.bl true)) μ Q X = Wp (Op Φ c ρ) μ (fun z μ1 => Wp (cmpD op y z) μ1 Q X) X := by
  simp only [chK, wp_bind]
theorem w_chF {op : Cop} {c : E} {y : D} : Wp (chK Φ op c ρ y (.bl false)) μ Q X = Q (.bl false) μ := by with_unfolding_all rfl
def ifK (Φ : Cfg) (a b : E) (ρ : Env) : Bool → M D
  | true => evE Φ a ρ
  | false => evE Φ b ρ
theorem w_ife {c a b : E} : Wp (evE Φ (.ife c a b) ρ) μ Q X = Wp (Op Φ c ρ) μ (fun x μ1 => Wp (tests x) μ1 (fun t μ2 => Wp (ifK Φ a b ρ t) μ2 Q X) X) X := by
  simp only [evE, wp_bind, Op]
  try (first | rfl | (congr; funext x μ1; congr; funext x μ1; congr; funext t μ2; cases t <;> rfl))
theorem w_ifT {a b : E} : Wp (ifK Φ a b ρ true) μ Q X = Wp (evE Φ a ρ) μ Q X := by with_unfolding_all rfl
theorem w_ifF {a b : E} : Wp (ifK Φ a b ρ false) μ Q X = Wp (evE Φ b ρ) μ Q X := by with_unfolding_all rfl
theorem w_tup {es : List E} : Wp (evE Φ (.tup es) ρ) μ Q X = Wp (evEs Φ es ρ) μ (fun ds μ1 => ds.length ≤ LINE ∧ Q (.tup ds) μ1) X := by
  simp only [evE, wp_bind, tTup, wp_guard, wp_ret, decide_eq_true_eq]
  try rfl
theorem w_lst {es : List E} : Wp (evE Φ (.lst es) ρ) μ Q X = Wp (evEs Φ es ρ) μ (fun ds μ1 => ds.length ≤ LINE ∧ Q (.lst true ds) μ1) X := by
  simp only [evE, wp_bind, tLst, wp_guard, wp_ret, decide_eq_true_eq]
  try rfl
theorem w_dct0 : Wp (evE Φ .dct0 ρ) μ Q X = Q (.dct true [] []) μ := by with_unfolding_all rfl
theorem w_dct1 {k v : E} : Wp (evE Φ (.dct1 k v) ρ) μ Q X = Wp (evE Φ k ρ) μ (fun k μ1 => Wp (evE Φ v ρ) μ1 (fun v μ2 => Wp (match keyOf k with
      | some k => guard' v.nb (M.ret (.dct true [k] [v]))
      | none => M.bad) μ2 Q X) X) X := by
  simp only [evE, wp_bind]
  try rfl
theorem w_idx {a i : E} : Wp (evE Φ (.idx a i) ρ) μ Q X = Wp (Op Φ a ρ) μ (fun x μ1 => Wp (evE Φ i ρ) μ1 (fun y μ2 => Wp (idxD x y) μ2 Q X) X) X := by
  simp only [evE, wp_bind, Op]
  try rfl
theorem w_slc {a : E} {lo hi : Option E} : Wp (evE Φ (.slc a lo hi) ρ) μ Q X = Wp (Op Φ a ρ) μ (fun x μ1 => Wp (evO Φ lo ρ) μ1 (fun l μ2 => Wp (evO Φ hi ρ) μ2 (fun h μ3 => Wp (slcD x l h) μ3 Q X) X) X) X := by
  simp only [evE, wp_bind, Op]
  try rfl
theorem w_rev {a : E} : Wp (evE Φ (.rev a) ρ) μ Q X = Wp (Op Φ a ρ) μ (fun x μ1 => Wp (match x with
    | .lst _ ds => M.ret (.lst true ds.reverse)
    | _ => M.bad) μ1 Q X) X := by
  simp only [evE, wp_bind, Op]
  try rfl
theorem w_isi {a : E} {t : Ty} : Wp (evE Φ (.isi a t) ρ) μ Q X = Wp (Op Φ a ρ) μ (fun x μ1 => hasTy x = true ∧ Q (.bl (isTy x t)) μ1) X := by
  simp only [evE, wp_bind, Op, wp_guard, wp_ret]
  try rfl
theorem w_call {f : Str} {es : List E} : Wp (evE Φ (.call f es) ρ) μ Q X = Wp (evEs Φ es ρ) μ (fun ds μ1 => Wp (Φ.fn f (D.fzL ds)) μ1 Q X) X := by
  simp only [evE, wp_bind]
  try rfl
theorem w_blt {b : Blt} {e : E} : Wp (evE Φ (.blt b e) ρ) μ Q X = Wp (Op Φ e ρ) μ (fun x μ1 => Wp (bltD b x) μ1 Q X) X := by
  simp only [evE, wp_bind, Op]
  try rfl
def bdy (Φ : Cfg) (c : Option E) (e : E) : Option Env → M (Option D)
  | some ρ' => M.bind (evC Φ c ρ') fun | true => M.bind (evE Φ e ρ') fun y => M.ret (some y) | false => M.ret none
  | none => M.bad
theorem w_lc {t : T} {it : I} {c : Option E} {e : E} : Wp (evE Φ (.lc t it c e) ρ) μ Q X = Wp (evI Φ it ρ) μ (fun xs μ1 => Wp (mapC (fun x => bdy Φ c e (asg t x (wipe ρ t.ix))) xs []) μ1 (fun ys μ2 => Q (.lst true ys) μ2) nX) X := by
  simp only [evE, wp_bind, wp_nox, wp_ret]
  try (first | rfl | (congr; funext x μ1; congr; funext y μ2; unfold bdy; split <;> simp [*]))
def bdyK (Φ : Cfg) (e : E) (ρ : Env) : Bool → M (Option D)
  | true => M.bind (evE Φ e ρ) fun y => M.ret (some y)
  | false => M.ret none
theorem w_bdy {Q : Option D → Sto → Prop} {c : Option E} {e : E} : Wp (bdy Φ c e (some ρ)) μ Q X = Wp (evC Φ c ρ) μ (fun b μ1 => Wp (bdyK Φ e ρ b) μ1 Q X) X := by
  simp only [bdy, wp_bind]
  try (first | rfl | (congr; funext x μ1; cases x <;> rfl))
theorem w_bdyT {Q : Option D → Sto → Prop} {e : E} : Wp (bdyK Φ e ρ true) μ Q X = Wp (evE Φ e ρ) μ (fun y μ1 => Q (some y) μ1) X := by
  simp only [bdyK, wp_bind, wp_ret]
theorem w_bdyF {Q : Option D → Sto → Prop} {e : E} : Wp (bdyK Φ e ρ false) μ Q X = Q none μ := by with_unfolding_all rfl
theorem w_nil {Q : List D → Sto → Prop} : Wp (evEs Φ [] ρ) μ Q X = Q [] μ := by with_unfolding_all rfl
theorem w_cons {Q : List D → Sto → Prop} {e : E} {es : List E} : Wp (evEs Φ (e :: es) ρ) μ Q X = Wp (evE Φ e ρ) μ (fun d μ1 => Wp (evEs Φ es ρ) μ1 (fun ds μ2 => Q (d :: ds) μ2) X) X := by
  simp only [evEs, wp_bind, wp_ret]
theorem w_oN {Q : Option Int → Sto → Prop} : Wp (evO Φ none ρ) μ Q X = Q none μ := by with_unfolding_all rfl
theorem w_oS {Q : Option Int → Sto → Prop} {e : E} : Wp (evO Φ (some e) ρ) μ Q X = Wp (evE Φ e ρ) μ (fun d μ1 => Wp (match d with | .int i => M.ret (some i) | _ => M.bad) μ1 Q X) X := by
  simp only [evO, wp_bind]
  try rfl
theorem w_cN {Q : Bool → Sto → Prop} : Wp (evC Φ none ρ) μ Q X = Q true μ := by with_unfolding_all rfl
theorem w_cS {Q : Bool → Sto → Prop} {e : E} : Wp (evC Φ (some e) ρ) μ Q X = Wp (Op Φ e ρ) μ (fun d μ1 => Wp (tests d) μ1 Q X) X := by
  simp only [evC, wp_bind, Op]
  try rfl
variable {QL : List D → Sto → Prop}
theorem w_iseq {e : E} : Wp (evI Φ (.seq e) ρ) μ QL X = Wp (Op Φ e ρ) μ (fun d μ1 => Wp (items d) μ1 QL X) X := by
  simp only [evI, wp_bind, Op]
  try rfl
theorem w_irng1 {a : E} : Wp (evI Φ (.rng1 a) ρ) μ QL X = Wp (evE Φ a ρ) μ (fun d μ1 => Wp (match d with | .int j => rng 0 j | _ => M.bad) μ1 QL X) X := by
  simp only [evI, wp_bind]
  try rfl
theorem w_irng2 {a b : E} : Wp (evI Φ (.rng2 a b) ρ) μ QL X = Wp (evE Φ a ρ) μ (fun x μ1 => Wp (evE Φ b ρ) μ1 (fun y μ2 => Wp (match x, y with | .int i, .int j => rng i j | _, _ => M.bad) μ2 QL X) X) X := by
  simp only [evI, wp_bind]
  try rfl
theorem w_ienum {e : E} : Wp (evI Φ (.enum e) ρ) μ QL X = Wp (Op Φ e ρ) μ (fun x μ1 => Wp (itemsL x) μ1 (fun ds μ2 => QL (num 0 ds) μ2) X) X := by
  simp only [evI, wp_bind, Op, wp_ret]
  try rfl
def zipK (x y : D) : M (List D) := match x, y with
    | .lst _ xs, .lst _ ys => M.ret (zipD xs ys)
    | .tup xs, .tup ys => M.ret (zipD xs ys)
    | .lst _ xs, .tup ys => M.ret (zipD xs ys)
    | .str s, .lst _ ys => M.ret (zipD (chars s) ys)
    | _, _ => M.bad
theorem w_zip {a b : E} : Wp (evI Φ (.zip a b) ρ) μ QL X = Wp (Op Φ a ρ) μ (fun x μ1 => Wp (Op Φ b ρ) μ1 (fun y μ2 => Wp (zipK x y) μ2 QL X) X) X := by
  simp only [evI, wp_bind, Op]
  try rfl
theorem w_zipLL {a b : Bool} {xs ys : List D} : Wp (zipK (.lst a xs) (.lst b ys)) μ QL X = QL (zipD xs ys) μ := by with_unfolding_all rfl
theorem w_rng {a b : Int} : Wp (rng a b) μ QL X = ((-4611686018427387904 ≤ a ∧ a < 4611686018427387904 ∧ -4611686018427387904 ≤ b ∧ b < 4611686018427387904) ∧ QL ((List.range (b - a).toNat).map fun i => .int (a + (i : Nat))) μ) := by
  simp only [rng, wp_guard, wp_ret, decide_eq_true_eq]
end

/-! ### statements -/
section
variable {Φ : Cfg} {ρ : Env} {μ : Sto} {Q : Fl → Sto → Prop} {X : Str → List D → Sto → Prop}
/-- what comes behind a statement -/
def Kn (Φ : Cfg) (ss : List S) (Q : Fl → Sto → Prop) (X : Str → List D → Sto → Prop) : Fl → Sto → Prop
  | .nx ρ, μ => Wp (exSs Φ ss ρ) μ Q X
  | f, μ => Q f μ
theorem kn_nx {ss : List S} : Kn Φ ss Q X (.nx ρ) μ = Wp (exSs Φ ss ρ) μ Q X := by with_unfolding_all rfl
theorem kn_rt {ss : List S} {d : D} : Kn Φ ss Q X (.rt d) μ = Q (.rt d) μ := by with_unfolding_all rfl
theorem w_done : Wp (exSs Φ [] ρ) μ Q X = Q (.nx ρ) μ := by with_unfolding_all rfl
theorem w_seq {s : S} {ss : List S} : Wp (exSs Φ (s :: ss) ρ) μ Q X = Wp (exS Φ s ρ) μ (Kn Φ ss Q X) X := by
  simp only [exSs, wp_bind]
  try (first | rfl | (congr; funext f μ1; cases f <;> with_unfolding_all rfl))
def asK : Option Env → M Fl
  | some ρ' => M.ret (.nx ρ')
  | none => M.bad
theorem w_asK {ρ' : Env} : Wp (asK (some ρ')) μ Q X = Q (.nx ρ') μ := by with_unfolding_all rfl
theorem w_setT {t : T} {e : E} : Wp (exS Φ (.set true t e) ρ) μ Q X = Wp (evE Φ e ρ) μ (fun d μ1 => Wp (asK (asg t d.fz ρ)) μ1 Q X) X := by
  simp only [exS, wp_bind]
  try (first | rfl | (congr; funext d μ1; unfold asK; split <;> simp [*]))
theorem w_setF {t : T} {e : E} : Wp (exS Φ (.set false t e) ρ) μ Q X = Wp (evE Φ e ρ) μ (fun d μ1 => Wp (asK (asg t d ρ)) μ1 Q X) X := by
  simp only [exS, wp_bind]
  try (first | rfl | (congr; funext d μ1; unfold asK; split <;> simp [*]))
theorem w_aug {i : Nat} {op : Bop} {e : E} : Wp (exS Φ (.aug i op e) ρ) μ Q X = Wp (match ρ[i]? with
    | some (some x) => M.bind (evE Φ e ρ) fun y => M.bind (augD op x y) fun z => M.ret (.nx (ρ.set i (some z)))
    | _ => M.bad) μ Q X := by with_unfolding_all rfl
theorem w_app {i : Nat} {e : E} : Wp (exS Φ (.app i e) ρ) μ Q X = Wp (match ρ[i]? with
    | some (some (.lst true ds)) => M.bind (evE Φ e ρ) fun d => guard' (decide (ds.length < LINE)) (M.ret (.nx (ρ.set i (some (.lst true (ds ++ [d]))))))
    | _ => M.bad) μ Q X := by with_unfolding_all rfl
theorem w_put {i : Nat} {k e : E} : Wp (exS Φ (.put i k e) ρ) μ Q X = Wp (match ρ[i]? with
    | some (some x) => M.bind (evE Φ e ρ) fun d => M.bind (evE Φ k ρ) fun k => guard' d.nb (M.bind (putD x k d) fun x' => M.ret (.nx (ρ.set i (some x'))))
    | _ => M.bad) μ Q X := by with_unfolding_all rfl
theorem w_rput {a k e : E} : Wp (exS Φ (.rput a k e) ρ) μ Q X = Wp (evE Φ e ρ) μ (fun d μ1 => Wp (evE Φ a ρ) μ1 (fun a μ2 => Wp (evE Φ k ρ) μ2 (fun k μ3 => d.nb = true ∧ Wp (setR a k d) μ3 (fun _ μ4 => Q (.nx ρ) μ4) X) X) X) X := by
  simp only [exS, wp_bind, wp_guard, wp_ret]
theorem w_raug {a k e : E} {op : Bop} : Wp (exS Φ (.raug a k op e) ρ) μ Q X = Wp (evE Φ a ρ) μ (fun a μ1 => Wp (evE Φ k ρ) μ1 (fun k μ2 => Wp (getR a k) μ2 (fun x μ3 => Wp (evE Φ e ρ) μ3 (fun y μ4 => Wp (augD op x y) μ4 (fun d μ5 => Wp (setR a k d) μ5 (fun _ μ6 => Q (.nx ρ) μ6) X) X) X) X) X) X := by
  simp only [exS, wp_bind, wp_guard, wp_ret]
theorem w_expr {e : E} : Wp (exS Φ (.expr e) ρ) μ Q X = Wp (evE Φ e ρ) μ (fun _ μ1 => Q (.nx ρ) μ1) X := by
  simp only [exS, wp_bind, wp_ret]
theorem w_rt {e : E} : Wp (exS Φ (.ret e) ρ) μ Q X = Wp (evE Φ e ρ) μ (fun d μ1 => Q (.rt d) μ1) X := by
  simp only [exS, wp_bind, wp_ret]
theorem w_retN : Wp (exS Φ .retN ρ) μ Q X = Q (.rt .non) μ := by with_unfolding_all rfl
theorem w_retMv {i : Nat} : Wp (exS Φ (.retMv i) ρ) μ Q X = Wp (match ρ[i]? with
    | some (some d) => guard' (!d.isX) (M.ret (.rt d))
    | _ => M.bad) μ Q X := by with_unfolding_all rfl
def sfK (Φ : Cfg) (a b : List S) (ρ : Env) : Bool → M Fl
  | true => exSs Φ a ρ
  | false => exSs Φ b ρ
theorem w_sif {c : E} {a b : List S} : Wp (exS Φ (.ife c a b) ρ) μ Q X = Wp (Op Φ c ρ) μ (fun x μ1 => Wp (tests x) μ1 (fun t μ2 => Wp (sfK Φ a b ρ t) μ2 Q X) X) X := by
  simp only [exS, wp_bind, Op]
  try (first | rfl | (congr; funext x μ1; congr; funext x μ1; congr; funext t μ2; cases t <;> rfl))
theorem w_sfT {a b : List S} : Wp (sfK Φ a b ρ true) μ Q X = Wp (exSs Φ a ρ) μ Q X := by with_unfolding_all rfl
theorem w_sfF {a b : List S} : Wp (sfK Φ a b ρ false) μ Q X = Wp (exSs Φ b ρ) μ Q X := by with_unfolding_all rfl
def fbd (Φ : Cfg) (b : List S) : Option Env → M Fl
  | some ρ' => exSs Φ b ρ'
  | none => M.bad
theorem w_fbd {b : List S} : Wp (fbd Φ b (some ρ)) μ Q X = Wp (exSs Φ b ρ) μ Q X := by with_unfolding_all rfl
theorem w_for {t : T} {it : I} {b : List S} : Wp (exS Φ (.for_ t it b) ρ) μ Q X = Wp (evI Φ it ρ) μ (fun xs μ1 => Wp (forL (fun x ρ => fbd Φ b (asg t x ρ)) xs ρ) μ1 Q X) X := by
  simp only [exS, wp_bind]
  try (first | rfl | (congr; funext xs μ1; congr; funext x ρ; unfold fbd; split <;> simp [*]))
theorem w_while {c : E} {b : List S} : Wp (exS Φ (.while_ c b) ρ) μ Q X = Wp (whl (fun ρ => M.bind (Op Φ c ρ) tests) (fun ρ => exSs Φ b ρ) WF ρ) μ Q X := by with_unfolding_all rfl
theorem w_raise {c : Str} {es : List E} : Wp (exS Φ (.raise c es) ρ) μ Q X = Wp (evEs Φ es ρ) μ (fun ds μ1 => D.nbL ds = true ∧ X c ds μ1) X := by
  simp only [exS, wp_bind, wp_guard, wp_exc]
theorem w_frz {i : Nat} : Wp (exS Φ (.frz i) ρ) μ Q X = Wp (match ρ[i]? with
    | some (some d) => M.ret (.nx (ρ.set i (some d.fz)))
    | _ => M.bad) μ Q X := by with_unfolding_all rfl
theorem w_pass : Wp (exS Φ .pass ρ) μ Q X = Q (.nx ρ) μ := by with_unfolding_all rfl
theorem w_end {Q : D → Sto → Prop} {d : D} : Wp (endFl (.rt d)) μ Q X = Q d μ := by with_unfolding_all rfl
theorem w_endN {Q : D → Sto → Prop} : Wp (endFl (.nx ρ)) μ Q X = Q .non μ := by with_unfolding_all rfl
end

/-! ### operations -/
section
variable {μ : Sto} {Q : D → Sto → Prop} {X : Str → List D → Sto → Prop}
theorem w_add {i j : Int} : Wp (binD .add (.int i) (.int j)) μ Q X = Q (.int (i + j)) μ := by with_unfolding_all rfl
theorem w_sub {i j : Int} : Wp (binD .sub (.int i) (.int j)) μ Q X = Q (.int (i - j)) μ := by with_unfolding_all rfl
theorem w_mul {i j : Int} : Wp (binD .mul (.int i) (.int j)) μ Q X = (((-B64 < i ∧ i < B64) ∨ (-B64 < j ∧ j < B64)) ∧ Q (.int (i * j)) μ) := by
  simp only [binD, wp_guard, wp_ret, decide_eq_true_eq]
theorem w_mulL {b : Bool} {ds : List D} {k : Int} : Wp (binD .mul (.lst b ds) (.int k)) μ Q X = ((-9223372036854775808 ≤ k ∧ k < 9223372036854775808 ∧ ds.length * k.toNat ≤ LINE) ∧ Q (.lst true (List.replicate k.toNat ds).flatten) μ) := by
  simp only [binD, wp_guard, wp_ret, decide_eq_true_eq]
theorem w_fdiv {i j : Int} : Wp (binD .fdiv (.int i) (.int j)) μ Q X = ((0 < j ∧ j < 1073741824) ∧ Q (.int (i / j)) μ) := by
  simp only [binD, wp_guard, wp_ret, decide_eq_true_eq]
theorem w_mod {i j : Int} : Wp (binD .mod (.int i) (.int j)) μ Q X = (0 < j ∧ Q (.int (i % j)) μ) := by
  simp only [binD, wp_guard, wp_ret, decide_eq_true_eq]
theorem w_pow {i j : Int} : Wp (binD .pow (.int i) (.int j)) μ Q X = ((0 ≤ j ∧ j ≤ 1000000 ∧ -B64 < i ∧ i < B64) ∧ Q (.int (i ^ j.toNat)) μ) := by
  simp only [binD, wp_guard, wp_ret, decide_eq_true_eq]
theorem w_addT {as bs : List D} : Wp (binD .add (.tup as) (.tup bs)) μ Q X = ((as ++ bs).length ≤ LINE ∧ Q (.tup (as ++ bs)) μ) := by
  simp only [binD, tTup, wp_guard, wp_ret, decide_eq_true_eq]
theorem w_addL {a b : Bool} {as bs : List D} : Wp (binD .add (.lst a as) (.lst b bs)) μ Q X = ((as ++ bs).length ≤ LINE ∧ Q (.lst true (as ++ bs)) μ) := by
  simp only [binD, tLst, wp_guard, wp_ret, decide_eq_true_eq]
theorem w_eqi {i j : Int} : Wp (cmpD .eq (.int i) (.int j)) μ Q X = Q (.bl (decide (i = j))) μ := by
  have h : D.eqD (.int i) (.int j) = some (decide (i = j)) := by
    simp [D.eqD, D.toP, SeqAt.shaped, PyData.canLay0, PyData.depth, PyData.eqv]
    rfl
  simp only [cmpD, h, Option.map, wp_some]
theorem w_nei {i j : Int} : Wp (cmpD .ne (.int i) (.int j)) μ Q X = Q (.bl (!decide (i = j))) μ := by
  have h : D.eqD (.int i) (.int j) = some (decide (i = j)) := by
    simp [D.eqD, D.toP, SeqAt.shaped, PyData.canLay0, PyData.depth, PyData.eqv]
    rfl
  simp only [cmpD, h, Option.map, wp_some]
theorem w_lti {i j : Int} : Wp (cmpD .lt (.int i) (.int j)) μ Q X = Q (.bl (decide (i < j))) μ := by with_unfolding_all rfl
theorem w_lei {i j : Int} : Wp (cmpD .le (.int i) (.int j)) μ Q X = Q (.bl (decide (i ≤ j))) μ := by with_unfolding_all rfl
theorem w_gti {i j : Int} : Wp (cmpD .gt (.int i) (.int j)) μ Q X = Q (.bl (decide (j < i))) μ := by with_unfolding_all rfl
theorem w_gei {i j : Int} : Wp (cmpD .ge (.int i) (.int j)) μ Q X = Q (.bl (decide (j ≤ i))) μ := by with_unfolding_all rfl
variable {QB : Bool → Sto → Prop} {QL : List D → Sto → Prop}
theorem w_tbl {b : Bool} : Wp (tests (.bl b)) μ QB X = QB b μ := by with_unfolding_all rfl
theorem w_tin {b : Int} : Wp (tests (.int b)) μ QB X = QB (b != 0) μ := by with_unfolding_all rfl
theorem w_tls {b : Bool} {ds : List D} : Wp (tests (.lst b ds)) μ QB X = QB (!ds.isEmpty) μ := by with_unfolding_all rfl
theorem w_ixT {ds : List D} {i : Int} : Wp (idxD (.tup ds) (.int i)) μ Q X = Wp (ofO (L2.atI ds i)) μ Q X := by
  simp only [idxD, getD']
  cases L2.atI ds i <;> rfl
theorem w_ixL {b : Bool} {ds : List D} {i : Int} : Wp (idxD (.lst b ds) (.int i)) μ Q X = Wp (ofO (L2.atI ds i)) μ Q X := by
  simp only [idxD, getD']
  cases L2.atI ds i <;> rfl
theorem w_slL {b : Bool} {ds : List D} {l h : Option Int} : Wp (slcD (.lst b ds) l h) μ Q X = Q (.lst true (cutD ds l h)) μ := by with_unfolding_all rfl
theorem w_slT {ds : List D} {l h : Option Int} : Wp (slcD (.tup ds) l h) μ Q X = Q (.tup (cutD ds l h)) μ := by with_unfolding_all rfl
theorem w_len {b : Bool} {ds : List D} : Wp (bltD .len (.lst b ds)) μ Q X = Q (.int ds.length) μ := by with_unfolding_all rfl
theorem w_lenT {ds : List D} : Wp (bltD .len (.tup ds)) μ Q X = Q (.int ds.length) μ := by with_unfolding_all rfl
theorem w_list {b : Bool} {ds : List D} : Wp (bltD .list (.lst b ds)) μ Q X = Q (.lst true ds) μ := by with_unfolding_all rfl
theorem w_listT {ds : List D} : Wp (bltD .list (.tup ds)) μ Q X = Q (.lst true ds) μ := by with_unfolding_all rfl
theorem w_tuple {b : Bool} {ds : List D} : Wp (bltD .tuple (.lst b ds)) μ Q X = Q (.tup ds) μ := by with_unfolding_all rfl
theorem w_inti {i : Int} : Wp (bltD .int (.int i)) μ Q X = Q (.int i) μ := by with_unfolding_all rfl
theorem w_intb {b : Bool} : Wp (bltD .int (.bl b)) μ Q X = Q (.int (if b then 1 else 0)) μ := by with_unfolding_all rfl
theorem w_abs {i : Int} : Wp (bltD .abs (.int i)) μ Q X = Q (.int (if i < 0 then -i else i)) μ := by with_unfolding_all rfl
theorem w_itL {b : Bool} {ds : List D} : Wp (items (.lst b ds)) μ QL X = QL ds μ := by with_unfolding_all rfl
theorem w_itT {ds : List D} : Wp (items (.tup ds)) μ QL X = QL ds μ := by with_unfolding_all rfl
theorem w_itLL {b : Bool} {ds : List D} : Wp (itemsL (.lst b ds)) μ QL X = QL ds μ := by with_unfolding_all rfl
end
/-! W1a -/
def pp : Prog := ⟨P50.tab, [], P50.gls, P50.xi⟩
def Φ (k : Nat) : Cfg := ⟨run pp k, fun x => pp.gl.lookup x, pp.xi⟩
theorem fnΦ {k : Nat} {f : Str} {ds : List D} : (Φ k).fn f ds = run pp k f ds := kp rfl
theorem e_product_of (k : Nat) (a : D) : run pp (k + 1) (Str.ofString "product_of") [a] = M.bind (exSs (Φ k) P50.f_product_of.body [some a, none, none]) endFl := kp rfl
theorem e_count_parcels (k : Nat) (a : D) : run pp (k + 1) (Str.ofString "count_parcels") [a] = M.bind (exSs (Φ k) P50.f_count_parcels.body [some a, none, none]) endFl := kp rfl
theorem e_all_parcels (k : Nat) (a : D) : run pp (k + 1) (Str.ofString "all_parcels") [a] = M.bind (exSs (Φ k) P50.f_all_parcels.body [some a, none, none, none, none, none]) endFl := kp rfl
theorem e_number_of_parcel (k : Nat) (a b : D) : run pp (k + 1) (Str.ofString "number_of_parcel") [a, b] = M.bind (exSs (Φ k) P50.f_number_of_parcel.body [some a, some b, none, none, none, none]) endFl := kp rfl
theorem e_with_worth (k : Nat) (a b c : D) : run pp (k + 1) (Str.ofString "with_worth") [a, b, c] = M.bind (exSs (Φ k) P50.f_with_worth.body [some a, some b, some c]) endFl := kp rfl
theorem e_is_whole (k : Nat) (a : D) : run pp (k + 1) (Str.ofString "is_whole") [a] = M.bind (exSs (Φ k) P50.f_is_whole.body [some a]) endFl := kp rfl
theorem e_are_wholes (k : Nat) (a : D) : run pp (k + 1) (Str.ofString "are_wholes") [a] = M.bind (exSs (Φ k) P50.f_are_wholes.body [some a, none]) endFl := kp rfl
theorem e_are_between (k : Nat) (a b c : D) : run pp (k + 1) (Str.ofString "are_between") [a, b, c] = M.bind (exSs (Φ k) P50.f_are_between.body [some a, some b, some c, none]) endFl := kp rfl
theorem e_is_rising (k : Nat) (a : D) : run pp (k + 1) (Str.ofString "is_rising") [a] = M.bind (exSs (Φ k) P50.f_is_rising.body [some a, none]) endFl := kp rfl
theorem e_parts_ahead (k : Nat) (a : D) : run pp (k + 1) (Str.ofString "parts_ahead") [a] = M.bind (exSs (Φ k) P50.f_parts_ahead.body [some a]) endFl := kp rfl
theorem e_has_halt (k : Nat) (a : D) : run pp (k + 1) (Str.ofString "has_halt") [a] = M.bind (exSs (Φ k) P50.f_has_halt.body [some a, none]) endFl := kp rfl
theorem e_count_halts (k : Nat) (a : D) : run pp (k + 1) (Str.ofString "count_halts") [a] = M.bind (exSs (Φ k) P50.f_count_halts.body [some a, none]) endFl := kp rfl
theorem e_pass_table (k : Nat) (a : D) : run pp (k + 1) (Str.ofString "pass_table") [a] = M.bind (exSs (Φ k) P50.f_pass_table.body [some a, none]) endFl := kp rfl
theorem e_drop_table (k : Nat) (a : D) : run pp (k + 1) (Str.ofString "drop_table") [a] = M.bind (exSs (Φ k) P50.f_drop_table.body [some a, none]) endFl := kp rfl
theorem e_copied_table (k : Nat) (a : D) : run pp (k + 1) (Str.ofString "copied_table") [a] = M.bind (exSs (Φ k) P50.f_copied_table.body [some a, none]) endFl := kp rfl
theorem e_joined (k : Nat) (a b : D) : run pp (k + 1) (Str.ofString "joined") [a, b] = M.bind (exSs (Φ k) P50.f_joined.body [some a, some b, none]) endFl := kp rfl
theorem e_outs_of_numbers (k : Nat) (a b : D) : run pp (k + 1) (Str.ofString "outs_of_numbers") [a, b] = M.bind (exSs (Φ k) P50.f_outs_of_numbers.body [some a, some b, none, none, none]) endFl := kp rfl
theorem e_table_or (k : Nat) (a b : D) : run pp (k + 1) (Str.ofString "table_or") [a, b] = M.bind (exSs (Φ k) P50.f_table_or.body [some a, some b, none, none]) endFl := kp rfl
theorem e_table_then (k : Nat) (a b : D) : run pp (k + 1) (Str.ofString "table_then") [a, b] = M.bind (exSs (Φ k) P50.f_table_then.body [some a, some b, none]) endFl := kp rfl
theorem e_all_behind (k : Nat) (a b : D) : run pp (k + 1) (Str.ofString "all_behind") [a, b] = M.bind (exSs (Φ k) P50.f_all_behind.body [some a, some b, none, none, none, none]) endFl := kp rfl
theorem e_table_again (k : Nat) (a : D) : run pp (k + 1) (Str.ofString "table_again") [a] = M.bind (exSs (Φ k) P50.f_table_again.body [some a, none]) endFl := kp rfl
theorem e_table_not (k : Nat) (a : D) : run pp (k + 1) (Str.ofString "table_not") [a] = M.bind (exSs (Φ k) P50.f_table_not.body [some a, none, none]) endFl := kp rfl
theorem e_test_table (k : Nat) (a b c : D) : run pp (k + 1) (Str.ofString "test_table") [a, b, c] = M.bind (exSs (Φ k) P50.f_test_table.body [some a, some b, some c, none, none]) endFl := kp rfl
theorem e_put_table (k : Nat) (a b c : D) : run pp (k + 1) (Str.ofString "put_table") [a, b, c] = M.bind (exSs (Φ k) P50.f_put_table.body [some a, some b, some c, none]) endFl := kp rfl
theorem e_table_of_sign (k : Nat) (a b : D) : run pp (k + 1) (Str.ofString "table_of_sign") [a, b] = M.bind (exSs (Φ k) P50.f_table_of_sign.body [some a, some b]) endFl := kp rfl
theorem e_told_table (k : Nat) (a b : D) : run pp (k + 1) (Str.ofString "told_table") [a, b] = M.bind (exSs (Φ k) P50.f_told_table.body [some a, some b, none, none]) endFl := kp rfl
theorem e_is_outs (k : Nat) (a b : D) : run pp (k + 1) (Str.ofString "is_outs") [a, b] = M.bind (exSs (Φ k) P50.f_is_outs.body [some a, some b]) endFl := kp rfl
theorem e_is_table (k : Nat) (a b : D) : run pp (k + 1) (Str.ofString "is_table") [a, b] = M.bind (exSs (Φ k) P50.f_is_table.body [some a, some b, none]) endFl := kp rfl
theorem e_count_states (k : Nat) (a : D) : run pp (k + 1) (Str.ofString "count_states") [a] = M.bind (exSs (Φ k) P50.f_count_states.body [some a]) endFl := kp rfl
theorem e_copied_tables (k : Nat) (a : D) : run pp (k + 1) (Str.ofString "copied_tables") [a] = M.bind (exSs (Φ k) P50.f_copied_tables.body [some a, none]) endFl := kp rfl
theorem e_drops (k : Nat) (a b : D) : run pp (k + 1) (Str.ofString "drops") [a, b] = M.bind (exSs (Φ k) P50.f_drops.body [some a, some b, none]) endFl := kp rfl
theorem e_machine_of_table (k : Nat) (a : D) : run pp (k + 1) (Str.ofString "machine_of_table") [a] = M.bind (exSs (Φ k) P50.f_machine_of_table.body [some a]) endFl := kp rfl
theorem e_halt_machine (k : Nat) (a : D) : run pp (k + 1) (Str.ofString "halt_machine") [a] = M.bind (exSs (Φ k) P50.f_halt_machine.body [some a, none]) endFl := kp rfl
theorem e_rows_behind (k : Nat) (a b : D) : run pp (k + 1) (Str.ofString "rows_behind") [a, b] = M.bind (exSs (Φ k) P50.f_rows_behind.body [some a, some b, none, none]) endFl := kp rfl
theorem e_machine_or (k : Nat) (a b : D) : run pp (k + 1) (Str.ofString "machine_or") [a, b] = M.bind (exSs (Φ k) P50.f_machine_or.body [some a, some b, none, none, none]) endFl := kp rfl
theorem e_machine_then (k : Nat) (a b : D) : run pp (k + 1) (Str.ofString "machine_then") [a, b] = M.bind (exSs (Φ k) P50.f_machine_then.body [some a, some b, none, none, none, none, none]) endFl := kp rfl
theorem e_machine_again (k : Nat) (a : D) : run pp (k + 1) (Str.ofString "machine_again") [a] = M.bind (exSs (Φ k) P50.f_machine_again.body [some a, none, none, none, none, none, none, none, none, none, none]) endFl := kp rfl
theorem e_told_machine (k : Nat) (a b : D) : run pp (k + 1) (Str.ofString "told_machine") [a, b] = M.bind (exSs (Φ k) P50.f_told_machine.body [some a, some b, none]) endFl := kp rfl
theorem e_machine_of (k : Nat) (a b : D) : run pp (k + 1) (Str.ofString "machine_of") [a, b] = M.bind (exSs (Φ k) P50.f_machine_of.body [some a, some b]) endFl := kp rfl
theorem e_do_fit (k : Nat) (a : D) : run pp (k + 1) (Str.ofString "do_fit") [a] = M.bind (exSs (Φ k) P50.f_do_fit.body [some a, none, none, none]) endFl := kp rfl
theorem e_check_machine (k : Nat) (a b : D) : run pp (k + 1) (Str.ofString "check_machine") [a, b] = M.bind (exSs (Φ k) P50.f_check_machine.body [some a, some b, none, none, none, none, none, none, none]) endFl := kp rfl
theorem e__law_feed (k : Nat) (a : D) : run pp (k + 1) (Str.ofString "_law_feed") [a] = M.bind (exSs (Φ k) P50.f__law_feed.body [some a]) endFl := kp rfl
theorem e__law_draw (k : Nat) (a b : D) : run pp (k + 1) (Str.ofString "_law_draw") [a, b] = M.bind (exSs (Φ k) P50.f__law_draw.body [some a, some b, none, none, none]) endFl := kp rfl
theorem e__law_name (k : Nat) (a : D) : run pp (k + 1) (Str.ofString "_law_name") [a] = M.bind (exSs (Φ k) P50.f__law_name.body [some a]) endFl := kp rfl
theorem e__law_fields (k : Nat) (a b : D) : run pp (k + 1) (Str.ofString "_law_fields") [a, b] = M.bind (exSs (Φ k) P50.f__law_fields.body [some a, some b, none, none, none, none]) endFl := kp rfl
theorem e__law_pair (k : Nat) (a b : D) : run pp (k + 1) (Str.ofString "_law_pair") [a, b] = M.bind (exSs (Φ k) P50.f__law_pair.body [some a, some b, none]) endFl := kp rfl
theorem e__law_test (k : Nat) (a b c : D) : run pp (k + 1) (Str.ofString "_law_test") [a, b, c] = M.bind (exSs (Φ k) P50.f__law_test.body [some a, some b, some c, none, none]) endFl := kp rfl
theorem e__law_policy (k : Nat) (a b c d : D) : run pp (k + 1) (Str.ofString "_law_policy") [a, b, c, d] = M.bind (exSs (Φ k) P50.f__law_policy.body [some a, some b, some c, some d, none, none, none, none]) endFl := kp rfl
theorem e__law_same (k : Nat) (a b : D) : run pp (k + 1) (Str.ofString "_law_same") [a, b] = M.bind (exSs (Φ k) P50.f__law_same.body [some a, some b, none]) endFl := kp rfl
theorem e__law_anew (k : Nat) (a : D) : run pp (k + 1) (Str.ofString "_law_anew") [a] = M.bind (exSs (Φ k) P50.f__law_anew.body [some a, none]) endFl := kp rfl
theorem e__law_many (k : Nat) (a : D) : run pp (k + 1) (Str.ofString "_law_many") [a] = M.bind (exSs (Φ k) P50.f__law_many.body [some a, none, none, none]) endFl := kp rfl
theorem e__law_some_table (k : Nat) (a b c : D) : run pp (k + 1) (Str.ofString "_law_some_table") [a, b, c] = M.bind (exSs (Φ k) P50.f__law_some_table.body [some a, some b, some c, none, none, none]) endFl := kp rfl
theorem e__law_drop (k : Nat) (a : D) : run pp (k + 1) (Str.ofString "_law_drop") [a] = M.bind (exSs (Φ k) P50.f__law_drop.body [some a, none]) endFl := kp rfl
theorem e__law_some_machine (k : Nat) (a b c d : D) : run pp (k + 1) (Str.ofString "_law_some_machine") [a, b, c, d] = M.bind (exSs (Φ k) P50.f__law_some_machine.body [some a, some b, some c, some d, none, none, none, none]) endFl := kp rfl
theorem e__law_is_table (k : Nat) (a b : D) : run pp (k + 1) (Str.ofString "_law_is_table") [a, b] = M.bind (exSs (Φ k) P50.f__law_is_table.body [some a, some b, none, none]) endFl := kp rfl
theorem e__law_fault (k : Nat) (a b : D) : run pp (k + 1) (Str.ofString "_law_fault") [a, b] = M.bind (exSs (Φ k) P50.f__law_fault.body [some a, some b, none, none, none, none, none, none]) endFl := kp rfl
theorem e__law_told (k : Nat) (a b : D) : run pp (k + 1) (Str.ofString "_law_told") [a, b] = M.bind (exSs (Φ k) P50.f__law_told.body [some a, some b, none, none, none, none]) endFl := kp rfl
theorem e__law_no_table (k : Nat) (a b c : D) : run pp (k + 1) (Str.ofString "_law_no_table") [a, b, c] = M.bind (exSs (Φ k) P50.f__law_no_table.body [some a, some b, some c, none, none, none, none]) endFl := kp rfl
theorem e__law_bent (k : Nat) (a b c : D) : run pp (k + 1) (Str.ofString "_law_bent") [a, b, c] = M.bind (exSs (Φ k) P50.f__law_bent.body [some a, some b, some c, none, none, none, none, none, none, none]) endFl := kp rfl
theorem e__law_right (k : Nat) (a b c : D) : run pp (k + 1) (Str.ofString "_law_right") [a, b, c] = M.bind (exSs (Φ k) P50.f__law_right.body [some a, some b, some c, none, none, none, none, none]) endFl := kp rfl
theorem e__law_bent_again (k : Nat) (a b c : D) : run pp (k + 1) (Str.ofString "_law_bent_again") [a, b, c] = M.bind (exSs (Φ k) P50.f__law_bent_again.body [some a, some b, some c, none, none, none, none]) endFl := kp rfl
theorem e_law (k : Nat) (a : D) : run pp (k + 1) (Str.ofString "law") [a] = M.bind (exSs (Φ k) P50.f_law.body [some a, none, none, none, none, none, none, none, none]) endFl := kp rfl
theorem gl_DROP {k : Nat} : (Φ k).gl (Str.ofString "DROP") = some (.str (Str.ofString "drop")) := kp rfl
theorem gl_PASS {k : Nat} : (Φ k).gl (Str.ofString "PASS") = some (.str (Str.ofString "pass")) := kp rfl
theorem gl_TEST {k : Nat} : (Φ k).gl (Str.ofString "TEST") = some (.str (Str.ofString "test")) := kp rfl
theorem gl_PUT {k : Nat} : (Φ k).gl (Str.ofString "PUT") = some (.str (Str.ofString "put")) := kp rfl
theorem gl_HALT {k : Nat} : (Φ k).gl (Str.ofString "HALT") = some (.str (Str.ofString "halt")) := kp rfl
theorem gl_OR {k : Nat} : (Φ k).gl (Str.ofString "OR") = some (.str (Str.ofString "or")) := kp rfl
theorem gl_THEN {k : Nat} : (Φ k).gl (Str.ofString "THEN") = some (.str (Str.ofString "then")) := kp rfl
theorem gl_AGAIN {k : Nat} : (Φ k).gl (Str.ofString "AGAIN") = some (.str (Str.ofString "again")) := kp rfl
theorem gl_NOT {k : Nat} : (Φ k).gl (Str.ofString "NOT") = some (.str (Str.ofString "not")) := kp rfl
theorem gl_PARTS {k : Nat} : (Φ k).gl (Str.ofString "PARTS") = some (.dct false [.inr (Str.ofString "drop"), .inr (Str.ofString "pass"), .inr (Str.ofString "test"), .inr (Str.ofString "put"), .inr (Str.ofString "halt"), .inr (Str.ofString "or"), .inr (Str.ofString "then"), .inr (Str.ofString "again"), .inr (Str.ofString "not")] [.int 0, .int 0, .int 0, .int 0, .int 0, .int 2, .int 2, .int 1, .int 1]) := kp rfl
theorem gl_MOST_STATES {k : Nat} : (Φ k).gl (Str.ofString "MOST_STATES") = some (.int 12) := kp rfl
/-! W1 -/
set_option autoImplicit false
section
variable {Φ : Cfg} {ρ : Env} {μ : Sto} {Q : D → Sto → Prop} {X : Str → List D → Sto → Prop}
set_option autoImplicit true in
theorem o_non : Wp (Op Φ .non ρ) μ Q X = Wp (evE Φ .non ρ) μ (fun d μ1 => Q d.fz μ1) X := w_op rfl
set_option autoImplicit true in
theorem o_bl {x0} : Wp (Op Φ (.bl x0) ρ) μ Q X = Wp (evE Φ (.bl x0) ρ) μ (fun d μ1 => Q d.fz μ1) X := w_op rfl
set_option autoImplicit true in
theorem o_int {x0} : Wp (Op Φ (.int x0) ρ) μ Q X = Wp (evE Φ (.int x0) ρ) μ (fun d μ1 => Q d.fz μ1) X := w_op rfl
set_option autoImplicit true in
theorem o_str {x0} : Wp (Op Φ (.str x0) ρ) μ Q X = Wp (evE Φ (.str x0) ρ) μ (fun d μ1 => Q d.fz μ1) X := w_op rfl
set_option autoImplicit true in
theorem o_glob {x0} : Wp (Op Φ (.glob x0) ρ) μ Q X = Wp (evE Φ (.glob x0) ρ) μ (fun d μ1 => Q d.fz μ1) X := w_op rfl
set_option autoImplicit true in
theorem o_bin {x0 x1 x2} : Wp (Op Φ (.bin x0 x1 x2) ρ) μ Q X = Wp (evE Φ (.bin x0 x1 x2) ρ) μ (fun d μ1 => Q d.fz μ1) X := w_op rfl
set_option autoImplicit true in
theorem o_neg {x0} : Wp (Op Φ (.neg x0) ρ) μ Q X = Wp (evE Φ (.neg x0) ρ) μ (fun d μ1 => Q d.fz μ1) X := w_op rfl
set_option autoImplicit true in
theorem o_not {x0} : Wp (Op Φ (.not x0) ρ) μ Q X = Wp (evE Φ (.not x0) ρ) μ (fun d μ1 => Q d.fz μ1) X := w_op rfl
set_option autoImplicit true in
theorem o_and {x0 x1} : Wp (Op Φ (.and x0 x1) ρ) μ Q X = Wp (evE Φ (.and x0 x1) ρ) μ (fun d μ1 => Q d.fz μ1) X := w_op rfl
set_option autoImplicit true in
theorem o_or {x0 x1} : Wp (Op Φ (.or x0 x1) ρ) μ Q X = Wp (evE Φ (.or x0 x1) ρ) μ (fun d μ1 => Q d.fz μ1) X := w_op rfl
set_option autoImplicit true in
theorem o_cmp {x0 x1 x2} : Wp (Op Φ (.cmp x0 x1 x2) ρ) μ Q X = Wp (evE Φ (.cmp x0 x1 x2) ρ) μ (fun d μ1 => Q d.fz μ1) X := w_op rfl
set_option autoImplicit true in
theorem o_chain {x0 x1 x2 x3 x4} : Wp (Op Φ (.chain x0 x1 x2 x3 x4) ρ) μ Q X = Wp (evE Φ (.chain x0 x1 x2 x3 x4) ρ) μ (fun d μ1 => Q d.fz μ1) X := w_op rfl
set_option autoImplicit true in
theorem o_ife {x0 x1 x2} : Wp (Op Φ (.ife x0 x1 x2) ρ) μ Q X = Wp (evE Φ (.ife x0 x1 x2) ρ) μ (fun d μ1 => Q d.fz μ1) X := w_op rfl
set_option autoImplicit true in
theorem o_tup {x0} : Wp (Op Φ (.tup x0) ρ) μ Q X = Wp (evE Φ (.tup x0) ρ) μ (fun d μ1 => Q d.fz μ1) X := w_op rfl
set_option autoImplicit true in
theorem o_lst {x0} : Wp (Op Φ (.lst x0) ρ) μ Q X = Wp (evE Φ (.lst x0) ρ) μ (fun d μ1 => Q d.fz μ1) X := w_op rfl
set_option autoImplicit true in
theorem o_idx {x0 x1} : Wp (Op Φ (.idx x0 x1) ρ) μ Q X = Wp (evE Φ (.idx x0 x1) ρ) μ (fun d μ1 => Q d.fz μ1) X := w_op rfl
set_option autoImplicit true in
theorem o_slc {x0 x1 x2} : Wp (Op Φ (.slc x0 x1 x2) ρ) μ Q X = Wp (evE Φ (.slc x0 x1 x2) ρ) μ (fun d μ1 => Q d.fz μ1) X := w_op rfl
set_option autoImplicit true in
theorem o_rev {x0} : Wp (Op Φ (.rev x0) ρ) μ Q X = Wp (evE Φ (.rev x0) ρ) μ (fun d μ1 => Q d.fz μ1) X := w_op rfl
set_option autoImplicit true in
theorem o_isi {x0 x1} : Wp (Op Φ (.isi x0 x1) ρ) μ Q X = Wp (evE Φ (.isi x0 x1) ρ) μ (fun d μ1 => Q d.fz μ1) X := w_op rfl
set_option autoImplicit true in
theorem o_fld {x0 x1} : Wp (Op Φ (.fld x0 x1) ρ) μ Q X = Wp (evE Φ (.fld x0 x1) ρ) μ (fun d μ1 => Q d.fz μ1) X := w_op rfl
set_option autoImplicit true in
theorem o_isE {x0 x1} : Wp (Op Φ (.isE x0 x1) ρ) μ Q X = Wp (evE Φ (.isE x0 x1) ρ) μ (fun d μ1 => Q d.fz μ1) X := w_op rfl
set_option autoImplicit true in
theorem o_call {x0 x1} : Wp (Op Φ (.call x0 x1) ρ) μ Q X = Wp (evE Φ (.call x0 x1) ρ) μ (fun d μ1 => Q d.fz μ1) X := w_op rfl
set_option autoImplicit true in
theorem o_blt {x0 x1} : Wp (Op Φ (.blt x0 x1) ρ) μ Q X = Wp (evE Φ (.blt x0 x1) ρ) μ (fun d μ1 => Q d.fz μ1) X := w_op rfl
set_option autoImplicit true in
theorem o_lc {x0 x1 x2 x3} : Wp (Op Φ (.lc x0 x1 x2 x3) ρ) μ Q X = Wp (evE Φ (.lc x0 x1 x2 x3) ρ) μ (fun d μ1 => Q d.fz μ1) X := w_op rfl
set_option autoImplicit true in
theorem o_lc2 {x0 x1 x2 x3 x4 x5} : Wp (Op Φ (.lc2 x0 x1 x2 x3 x4 x5) ρ) μ Q X = Wp (evE Φ (.lc2 x0 x1 x2 x3 x4 x5) ρ) μ (fun d μ1 => Q d.fz μ1) X := w_op rfl
end
theorem asg_nm {i : Nat} {d : D} {ρ : Env} : asg (.nm i) d ρ = if i < ρ.length then some (ρ.set i (some d)) else none := by simp only [asg]
theorem asg_tup {ts : List T} {ds : List D} {ρ : Env} : asg (.tup ts) (.tup ds) ρ = if D.nbL ds then asgL ts ds ρ else none := by simp only [asg]
theorem asgL_nil {ρ : Env} : asgL [] [] ρ = some ρ := by simp only [asgL]
def asgK (ts : List T) (ds : List D) : Option Env → Option Env
  | some ρ' => asgL ts ds ρ'
  | none => none
theorem asgL_cons {t : T} {ts : List T} {d : D} {ds : List D} {ρ : Env} : asgL (t :: ts) (d :: ds) ρ = asgK ts ds (asg t d ρ) := by
  simp only [asgL]
  cases asg t d ρ <;> rfl
theorem asgK_s {ts : List T} {ds : List D} {ρ : Env} : asgK ts ds (some ρ) = asgL ts ds ρ := kp rfl
theorem inb_lst {b : Bool} {ds : List D} : (D.lst b ds).inb = D.nbL ds := kp rfl
theorem inb_dct {b : Bool} {ks : List Key} {ds : List D} : (D.dct b ks ds).inb = D.nbL ds := kp rfl
theorem ln0 : (0 ≤ LINE) = True := by simp [LINE]
theorem ln1 : (1 ≤ LINE) = True := by simp [LINE]
theorem ln2 : (2 ≤ LINE) = True := by simp [LINE]
theorem ln3 : (3 ≤ LINE) = True := by simp [LINE]
theorem ln4 : (4 ≤ LINE) = True := by simp [LINE]
theorem ln5 : (5 ≤ LINE) = True := by simp [LINE]
theorem ln6 : (6 ≤ LINE) = True := by simp [LINE]
theorem ln7 : (7 ≤ LINE) = True := by simp [LINE]
theorem ln8 : (8 ≤ LINE) = True := by simp [LINE]
/-- a for loop: I holds of what is done -/
def FlI (I : Env → Sto → Prop) (R : D → Sto → Prop) : Fl → Sto → Prop
  | .nx ρ, μ => I ρ μ
  | .cont ρ, μ => I ρ μ
  | .brk _, _ => False
  | .rt d, μ => R d μ
/-- what leaves the store -/
abbrev Pu (P : D → Prop) (μ : Sto) : D → Sto → Prop := fun d μ' => μ' = μ ∧ P d.fz
local macro_rules | `(tactic| simp_arith [$ls,*]) => `(tactic| simp only [wp_ret, wp_bad, wp_bind, wp_guard, wp_some, w_var, w_brw, w_non, w_bl, w_int, w_str, w_glob, w_opv, w_opb, w_bin, w_neg, w_not, w_and, w_or, w_andT, w_andF, w_orT, w_orF, w_cmp, w_chain, w_chT, w_chF, w_ife, w_ifT, w_ifF, w_tup, w_lst, w_dct0, w_dct1, w_idx, w_slc, w_rev, w_isi, w_call, w_blt, w_lc, w_bdy, w_bdyT, w_bdyF, w_nil, w_cons, w_oN, w_oS, w_cN, w_cS, w_iseq, w_irng1, w_irng2, w_ienum, w_zip, w_zipLL, w_rng, kn_nx, kn_rt, w_done, w_seq, w_asK, w_setT, w_setF, w_aug, w_app, w_put, w_rput, w_raug, w_expr, w_rt, w_retN, w_retMv, w_sif, w_sfT, w_sfF, w_fbd, w_for, w_while, w_raise, w_frz, w_pass, w_end, w_endN, w_add, w_sub, w_mul, w_fdiv, w_mod, w_addT, w_addL, w_eqi, w_nei, w_lti, w_lei, w_gti, w_gei, w_tbl, w_tin, w_tls, w_ixT, w_ixL, w_slL, w_slT, w_len, w_lenT, w_list, w_listT, w_tuple, w_inti, w_intb, w_abs, w_itL, w_itT, w_itLL, fnΦ, o_non, o_bl, o_int, o_str, o_glob, o_bin, o_neg, o_not, o_and, o_or, o_cmp, o_chain, o_ife, o_tup, o_lst, o_idx, o_slc, o_rev, o_isi, o_fld, o_isE, o_call, o_blt, o_lc, o_lc2, D.nb, D.nbL, D.fz, D.fzL, inb_lst, inb_dct, asg_nm, asg_tup, asgL_nil, asgL_cons, asgK_s, wipe, T.ix, T.ixL, List.append_nil, List.nil_append, List.cons_append, List.getElem?_cons_succ, List.getElem?_cons_zero, List.set_cons_succ, List.set_cons_zero, List.length_cons, List.length_nil, List.length_map, List.length_append, Nat.reduceAdd, Nat.reduceLT, Nat.zero_add, Nat.zero_lt_succ, Nat.reduceLeDiff, if_true, if_false, ite_true, ite_false, reduceIte, Bool.not_true, Bool.not_false, Bool.and_true, Bool.true_and, Bool.and_self, Bool.or_true, Bool.true_or, Bool.or_false, Bool.false_or, true_and, and_true, and_self, decide_true, decide_false, decide_eq_true_eq, ln0, ln1, ln2, ln3, ln4, ln5, ln6, ln7, ln8, Pu, FlI, $ls,*])
theorem nbL_of {P : D → Prop} (h : ∀ d, P d → d.nb = true ∧ d.fz = d) : ∀ {ds : List D}, (∀ x ∈ ds, P x) → D.nbL ds = true ∧ D.fzL ds = ds
  | [], _ => ⟨rfl, rfl⟩
  | d :: ds, hd => by
    have h1 := h d (hd d (List.mem_cons_self))
    have h2 := nbL_of h (ds := ds) (fun x hx => hd x (List.mem_cons_of_mem _ hx))
    exact ⟨by simp [D.nbL, h1.1, h2.1], by simp [D.fzL, h1.2, h2.2]⟩
theorem fzL_map {α : Type} (e : α → D) : ∀ as : List α, D.fzL (as.map e) = as.map (fun a => (e a).fz)
  | [] => rfl
  | a :: as => by simp [D.fzL, fzL_map e as]
theorem fzL_eq : ∀ as : List D, D.fzL as = as.map D.fz
  | [] => rfl
  | a :: as => by simp [D.fzL, fzL_eq as]
theorem nbL_eq : ∀ as : List D, D.nbL as = as.all D.nb
  | [] => rfl
  | a :: as => by simp [D.nbL, nbL_eq as]
theorem fzL_app (as bs : List D) : D.fzL (as ++ bs) = D.fzL as ++ D.fzL bs := by simp [fzL_eq]
theorem nbL_app (as bs : List D) : D.nbL (as ++ bs) = (D.nbL as && D.nbL bs) := by simp [nbL_eq]
theorem fzL_ints (r : List Int) : D.fzL (r.map .int) = r.map .int := by rw [fzL_map]; rfl
theorem nbL_ints (r : List Int) : D.nbL (r.map .int) = true := by rw [nbL_eq]; simp [D.nb]
theorem fzL_len (as : List D) : (D.fzL as).length = as.length := by simp [fzL_eq]

inductive F2 (P : D → D → Prop) : List D → List D → Prop where
  | nil : F2 P [] []
  | cons {x y : D} {xs ys : List D} (h : P x y) (t : F2 P xs ys) : F2 P (x :: xs) (y :: ys)
/-! ### loops -/
section
variable {μ : Sto} {X : Str → List D → Sto → Prop}
theorem wp_mapG {f : D → M (Option D)} (J : Sto → Prop) (P : D → Prop) {X : Str → List D → Sto → Prop} : ∀ (xs acc : List D) (μ : Sto) (Q : List D → Sto → Prop), acc.length + xs.length ≤ LINE → J μ →
    (∀ x ∈ xs, ∀ μ, J μ → Wp (f x) μ (fun o μ' => J μ' ∧ ∀ y, o = some y → P y) X) →
    (∀ ys μ', J μ' → ys.length ≤ xs.length → (∀ y ∈ ys, P y) → Q (acc ++ ys) μ') → Wp (mapC f xs acc) μ Q X
  | [], acc, μ, Q, hl, hj, hf, hq => by
    have := hq [] μ hj (Nat.le_refl _) (by simp)
    simpa [mapC, wp_ret] using this
  | x :: xs, acc, μ, Q, hl, hj, hf, hq => by
    rw [mapC, wp_bind]
    refine (hf x List.mem_cons_self μ hj).mono ?_
    rintro (_ | y) μ1 ⟨hj1, hy⟩
    · exact wp_mapG J P xs acc μ1 Q (by simp at hl; omega) hj1 (fun z hz => hf z (List.mem_cons_of_mem _ hz)) (fun ys μ' h1 h2 h3 => hq ys μ' h1 (by simp; omega) h3)
    · simp only [wp_guard, decide_eq_true_eq]
      refine ⟨by simp at hl; omega, ?_⟩
      refine wp_mapG J P xs (acc ++ [y]) μ1 Q (by simp at hl ⊢; omega) hj1 (fun z hz => hf z (List.mem_cons_of_mem _ hz)) (fun ys μ' h1 h2 h3 => ?_)
      have := hq (y :: ys) μ' h1 (by simp; omega) (by simpa using ⟨hy y rfl, h3⟩)
      simpa using this
/-- a comprehension without a condition: each part gives one -/
theorem wp_mapA {f : D → M (Option D)} (J : Sto → Prop) (P : D → D → Prop) {X : Str → List D → Sto → Prop} : ∀ (xs acc : List D) (μ : Sto) (Q : List D → Sto → Prop), acc.length + xs.length ≤ LINE → J μ →
    (∀ x ∈ xs, ∀ μ, J μ → Wp (f x) μ (fun o μ' => J μ' ∧ ∃ y, o = some y ∧ P x y) X) →
    (∀ ys μ', J μ' → F2 P xs ys → Q (acc ++ ys) μ') → Wp (mapC f xs acc) μ Q X
  | [], acc, μ, Q, hl, hj, hf, hq => by
    have := hq [] μ hj F2.nil
    simpa [mapC, wp_ret] using this
  | x :: xs, acc, μ, Q, hl, hj, hf, hq => by
    rw [mapC, wp_bind]
    refine (hf x List.mem_cons_self μ hj).mono ?_
    rintro _ μ1 ⟨hj1, y, rfl, hy⟩
    simp only [wp_guard, decide_eq_true_eq]
    refine ⟨by simp at hl; omega, ?_⟩
    refine wp_mapA J P xs (acc ++ [y]) μ1 Q (by simp at hl ⊢; omega) hj1 (fun z hz => hf z (List.mem_cons_of_mem _ hz)) (fun ys μ' h1 h2 => ?_)
    have := hq (y :: ys) μ' h1 (F2.cons hy h2)
    simpa using this
theorem forall2_len {P : D → D → Prop} : ∀ {xs ys : List D}, F2 P xs ys → ys.length = xs.length
  | _, _, .nil => rfl
  | _, _, .cons _ h => by simp [forall2_len h]
theorem forall2_mem {P : D → D → Prop} : ∀ {xs ys : List D}, F2 P xs ys → ∀ y ∈ ys, ∃ x ∈ xs, P x y
  | _, _, .cons h t, y, hy => by
    rcases List.mem_cons.1 hy with rfl | hy
    · exact ⟨_, List.mem_cons_self, h⟩
    · obtain ⟨x, hx, hp⟩ := forall2_mem t y hy
      exact ⟨x, List.mem_cons_of_mem _ hx, hp⟩
/-- each part gives a thing that is P when frozen; the store stays -/
theorem wp_mapP {f : D → M (Option D)} (P : D → Prop) {xs : List D} {Q : List D → Sto → Prop} (hl : xs.length ≤ LINE)
    (hf : ∀ x ∈ xs, Wp (f x) μ (fun o μ' => μ' = μ ∧ ∃ y, o = some y ∧ P y.fz) X)
    (hq : ∀ ys, ys.length = xs.length → (∀ y ∈ D.fzL ys, P y) → Q ys μ) : Wp (mapC f xs []) μ Q X := by
  refine wp_mapA (fun μ' => μ' = μ) (fun _ y => P y.fz) xs [] μ Q (by simpa using hl) rfl ?_ ?_
  · rintro x hx _ rfl; exact hf x hx
  · rintro ys _ rfl h
    refine hq ys (forall2_len h) ?_
    intro y hy
    rw [fzL_eq] at hy
    obtain ⟨z, hz, rfl⟩ := List.mem_map.1 hy
    obtain ⟨x, _, hp⟩ := forall2_mem h z hz
    exact hp
/-- the like with a store that moves -/
theorem wp_mapJ {f : D → M (Option D)} (J : Sto → Prop) (P : D → Prop) {xs : List D} {Q : List D → Sto → Prop} (hj : J μ) (hl : xs.length ≤ LINE)
    (hf : ∀ x ∈ xs, ∀ μ, J μ → Wp (f x) μ (fun o μ' => J μ' ∧ ∃ y, o = some y ∧ P y.fz) X)
    (hq : ∀ ys μ', J μ' → ys.length = xs.length → (∀ y ∈ D.fzL ys, P y) → Q ys μ') : Wp (mapC f xs []) μ Q X := by
  refine wp_mapA J (fun _ y => P y.fz) xs [] μ Q (by simpa using hl) hj hf ?_
  intro ys μ' hj h
  refine hq ys μ' hj (forall2_len h) ?_
  intro y hy
  rw [fzL_eq] at hy
  obtain ⟨z, hz, rfl⟩ := List.mem_map.1 hy
  obtain ⟨x, _, hp⟩ := forall2_mem h z hz
  exact hp
/-- each part gives just this; the store stays -/
theorem wp_mapV {α : Type} {f : D → M (Option D)} (e v : α → D) : ∀ (as : List α) (acc : List D) (Q : List D → Sto → Prop), acc.length + as.length ≤ LINE →
    (∀ a ∈ as, Wp (f (e a)) μ (fun o μ' => μ' = μ ∧ o = some (v a)) X) →
    Q (acc ++ as.map v) μ → Wp (mapC f (as.map e) acc) μ Q X
  | [], acc, Q, hl, hf, hq => by simpa [mapC, wp_ret] using hq
  | a :: as, acc, Q, hl, hf, hq => by
    rw [List.map_cons, mapC, wp_bind]
    refine (hf a List.mem_cons_self).mono ?_
    intro o μ1 h1
    rw [h1.1, h1.2]
    simp only [wp_guard, decide_eq_true_eq]
    refine ⟨by simp at hl; omega, wp_mapV e v as _ Q (by simp at hl ⊢; omega) (fun z hz => hf z (List.mem_cons_of_mem _ hz)) ?_⟩
    simpa using hq
/-- a filter -/
theorem wp_mapF {α : Type} {f : D → M (Option D)} (e : α → D) (c : α → Bool) : ∀ (as : List α) (acc : List D) (Q : List D → Sto → Prop), acc.length + as.length ≤ LINE →
    (∀ a ∈ as, Wp (f (e a)) μ (fun o μ' => μ' = μ ∧ o = if c a then some (e a) else none) X) →
    Q (acc ++ (as.filter c).map e) μ → Wp (mapC f (as.map e) acc) μ Q X
  | [], acc, Q, hl, hf, hq => by simpa [mapC, wp_ret] using hq
  | a :: as, acc, Q, hl, hf, hq => by
    rw [List.map_cons, mapC, wp_bind]
    refine (hf a List.mem_cons_self).mono ?_
    intro o μ1 h1
    rw [h1.1, h1.2]
    cases hc : c a with
    | false =>
      simp only [Bool.false_eq_true, if_false]
      exact wp_mapF e c as acc Q (by simp at hl; omega) (fun z hz => hf z (List.mem_cons_of_mem _ hz)) (by simpa [hc] using hq)
    | true =>
      simp only [if_true, wp_guard, decide_eq_true_eq]
      refine ⟨by simp at hl; omega, wp_mapF e c as _ Q (by simp at hl ⊢; omega) (fun z hz => hf z (List.mem_cons_of_mem _ hz)) ?_⟩
      simpa [hc] using hq
theorem wp_for {f : D → Env → M Fl} (R : D → Sto → Prop) {X : Str → List D → Sto → Prop} {Q : Fl → Sto → Prop} : ∀ (xs : List D) (I : Nat → Env → Sto → Prop) (ρ : Env) (μ : Sto), I 0 ρ μ →
    (∀ i (h : i < xs.length) ρ μ, I i ρ μ → Wp (f xs[i] ρ) μ (FlI (I (i + 1)) R) X) →
    (∀ ρ μ, I xs.length ρ μ → Q (.nx ρ) μ) → (∀ d μ, R d μ → Q (.rt d) μ) → Wp (forL f xs ρ) μ Q X
  | [], I, ρ, μ, h0, hf, hn, hr => by rw [forL, wp_ret]; exact hn _ _ h0
  | x :: xs, I, ρ, μ, h0, hf, hn, hr => by
    rw [forL, wp_bind]
    have h1 := hf 0 (by simp) ρ μ h0
    simp only [List.getElem_cons_zero] at h1
    have rc : ∀ ρ' μ', I 1 ρ' μ' → Wp (forL f xs ρ') μ' Q X := fun ρ' μ' hi => wp_for R xs (fun i => I (i + 1)) ρ' μ' hi (fun i h ρ μ hI => by
      have := hf (i + 1) (by simp; omega) ρ μ hI
      simpa using this) (fun ρ μ h => hn ρ μ (by simpa using h)) hr
    refine h1.mono ?_
    intro fl μ' hfl
    cases fl with
    | nx ρ' => exact rc ρ' μ' hfl
    | cont ρ' => exact rc ρ' μ' hfl
    | brk _ => exact hfl.elim
    | rt d => rw [wp_ret]; exact hr d μ' hfl
end

/-! ### shapes -/
def Up (n : Nat) (r : List Int) : Prop := r.Pairwise (· < ·) ∧ ∀ x ∈ r, 0 ≤ x ∧ x < n
def Rw (n : Nat) (d : D) : Prop := ∃ r : List Int, d = .lst false (r.map .int) ∧ Up n r
def LP (P : D → Prop) (k : Nat) (d : D) : Prop := ∃ ds, d = .lst false ds ∧ ds.length = k ∧ ∀ x ∈ ds, P x
def Tab (n : Nat) : D → Prop := LP (Rw n) n
def Dr (n : Nat) : D := .lst false (List.replicate n (.lst false []))
theorem Dr_fz (n : Nat) : (Dr n).nb = true ∧ (Dr n).fz = Dr n := by
  have h2 : D.nbL (List.replicate n (.lst false [])) = true ∧ D.fzL (List.replicate n (.lst false [])) = List.replicate n (.lst false []) := nbL_of (P := fun d => d = .lst false []) (by rintro d rfl; exact ⟨rfl, rfl⟩) (by intro x hx; exact (List.mem_replicate.1 hx).2)
  simp [Dr, D.nb, D.fz, h2.1, h2.2]
theorem Tab_Dr (n : Nat) : Tab n (Dr n) := ⟨_, rfl, by simp, by
  intro x hx
  rw [(List.mem_replicate.1 hx).2]
  exact ⟨[], rfl, by simp [Up]⟩⟩
/-- a row of the goes: the first column is empty -/
def Goe (n s : Nat) (d : D) : Prop := ∃ cs, d = .lst false (Dr n :: cs) ∧ cs.length = s ∧ ∀ x ∈ cs, Tab n x
def Mch (n s : Nat) (d : D) : Prop := ∃ a b, d = .tup [a, b] ∧ LP (Tab n) (s + 1) a ∧ LP (Goe n s) (s + 1) b
theorem up_len {r : List Int} : ∀ {a b : Int}, r.Pairwise (· < ·) → (∀ x ∈ r, a ≤ x ∧ x < b) → r.length ≤ (b - a).toNat := by
  induction r with
  | nil => intros; simp
  | cons x r ih =>
    intro a b hp hm
    have h1 := hm x List.mem_cons_self
    have h2 := ih (a := x + 1) (b := b) (List.pairwise_cons.1 hp).2 (fun y hy => ⟨by have := (List.pairwise_cons.1 hp).1 y hy; omega, (hm y (List.mem_cons_of_mem _ hy)).2⟩)
    simp only [List.length_cons]; omega
theorem Up.len {n : Nat} {r : List Int} (h : Up n r) : r.length ≤ n := by
  have := up_len (a := 0) (b := n) h.1 h.2
  omega
theorem Rw.fz {n : Nat} (d : D) (h : Rw n d) : d.nb = true ∧ d.fz = d := by
  obtain ⟨r, rfl, _⟩ := h
  simp [D.nb, D.fz, fzL_ints, nbL_ints]
theorem LP.fz {P : D → Prop} (h : ∀ d, P d → d.nb = true ∧ d.fz = d) {k : Nat} (d : D) (hd : LP P k d) : d.nb = true ∧ d.fz = d := by
  obtain ⟨ds, rfl, _, hp⟩ := hd
  have := nbL_of h hp
  simp [D.nb, D.fz, this.1, this.2]
theorem Tab.fz {n : Nat} (d : D) (h : Tab n d) : d.nb = true ∧ d.fz = d := LP.fz Rw.fz d h
theorem Goe.fz {n s : Nat} (d : D) (h : Goe n s d) : d.nb = true ∧ d.fz = d := by
  obtain ⟨cs, rfl, _, hp⟩ := h
  have h1 := nbL_of Tab.fz hp
  have h2 := Dr_fz n
  simp [D.nb, D.nbL, D.fz, D.fzL, h1.1, h1.2, h2.1, h2.2]
theorem Mch.fz {n s : Nat} (d : D) (h : Mch n s d) : d.nb = true ∧ d.fz = d := by
  obtain ⟨a, b, rfl, ha, hb⟩ := h
  have h1 := LP.fz Tab.fz a ha
  have h2 := LP.fz Goe.fz b hb
  simp [D.nb, D.nbL, D.fz, D.fzL, h1.1, h1.2, h2.1, h2.2]
theorem mem_zipD : ∀ {xs ys : List D} {z : D}, z ∈ zipD xs ys → ∃ x ∈ xs, ∃ y ∈ ys, z = .tup [x, y]
  | [], _, _, h => by simp [zipD] at h
  | _ :: _, [], _, h => by simp [zipD] at h
  | x :: xs, y :: ys, z, h => by
    rw [zipD] at h
    rcases List.mem_cons.1 h with rfl | h
    · exact ⟨x, List.mem_cons_self, y, List.mem_cons_self, rfl⟩
    · obtain ⟨a, ha, b, hb, e⟩ := mem_zipD h
      exact ⟨a, List.mem_cons_of_mem _ ha, b, List.mem_cons_of_mem _ hb, e⟩
theorem len_zipD : ∀ {xs ys : List D}, (zipD xs ys).length = min xs.length ys.length
  | [], _ => by simp [zipD]
  | _ :: _, [] => by simp [zipD]
  | x :: xs, y :: ys => by rw [zipD, List.length_cons, len_zipD]; simp [Nat.succ_min_succ]
/-! W2 -/
theorem line_eq : LINE = 16777216 := rfl
theorem atI_nat {α : Type} (xs : List α) (j : Nat) : L2.atI xs (j : Int) = xs[j]? := by
  unfold L2.atI L2.ixN
  rw [if_pos (by omega)]
  split
  · simp
  · rename_i h
    simp only [Option.bind]
    rw [List.getElem?_eq_none (by omega)]
theorem atI_0 {α : Type} (a : α) (as : List α) : L2.atI (a :: as) 0 = some a := by
  have := atI_nat (a :: as) 0
  simpa using this
theorem atI_1 {α : Type} (a b : α) (as : List α) : L2.atI (a :: b :: as) 1 = some b := by
  have := atI_nat (a :: b :: as) 1
  simpa using this
theorem atI_2 {α : Type} (a b c : α) (as : List α) : L2.atI (a :: b :: c :: as) 2 = some c := by
  have := atI_nat (a :: b :: c :: as) 2
  simpa using this
theorem cut_1 (ds : List D) : cutD ds (some 1) none = ds.tail := by
  unfold cutD
  cases ds with
  | nil => simp
  | cons d ds => simp [HT.sIx]
theorem mem_cut {ds : List D} {l h : Option Int} {x : D} (hx : x ∈ cutD ds l h) : x ∈ ds := List.mem_of_mem_drop (List.mem_of_mem_take hx)
theorem len_cut (ds : List D) (l h : Option Int) : (cutD ds l h).length ≤ ds.length := by
  unfold cutD; simp; omega
theorem w_notIn {μ : Sto} {Q : D → Sto → Prop} {X : Str → List D → Sto → Prop} {x : Int} {b : Bool} {r : List Int} : Wp (cmpD .notIn (.int x) (.lst b (r.map .int))) μ Q X = Q (.bl (!decide (x ∈ r))) μ := by
  have h : inD (.int x) (.lst b (r.map .int)) = some (decide (x ∈ r)) := by
    have h2 : L2.inV (L2.V.int x) ((r.map D.int).map D.toV) = decide (x ∈ r) := by
      induction r with
      | nil => rfl
      | cons y r ih =>
        simp only [List.map_cons, L2.inV, List.any_cons] at ih ⊢
        rw [ih]
        by_cases h : y = x
        · subst h; simp [D.toV, L2.eqV]
        · have : ¬ x = y := fun e => h e.symm
          simp [D.toV, L2.eqV, h, this]
    simp only [inD, D.flat, Bool.true_and, D.toV, h2]
    rw [if_pos (by simp [D.flat])]
  simp only [cmpD, h, Option.map, wp_some]
theorem dInts_map : ∀ r : List Int, dInts (r.map .int) = some r
  | [] => rfl
  | x :: r => by simp [dInts, dInts_map r]
theorem keyInts_map : ∀ r : List Int, keyInts (r.map .inl) = some r
  | [] => rfl
  | x :: r => by simp [keyInts, keyInts_map r]
theorem w_sorted {μ : Sto} {Q : D → Sto → Prop} {X : Str → List D → Sto → Prop} {b : Bool} {r : List Int} : Wp (bltD .sorted (.lst b (r.map .int))) μ Q X = Q (.lst true ((isort r).map .int)) μ := by
  simp only [bltD, dInts_map, Option.map, wp_some]
theorem w_sortedD {μ : Sto} {Q : D → Sto → Prop} {X : Str → List D → Sto → Prop} {r : List Int} {vs : List D} : Wp (bltD .sorted (.dct true (r.map .inl) vs)) μ Q X = (r.length < 64 ∧ Q (.lst true ((isort r).map .int)) μ) := by
  simp only [bltD, keyInts_map, Option.map, wp_some, wp_guard, List.length_map, decide_eq_true_eq]
theorem mem_ins (x y : Int) : ∀ r, y ∈ ins x r ↔ y = x ∨ y ∈ r
  | [] => by simp [ins]
  | z :: r => by
    unfold ins
    split
    · simp
    · simp [mem_ins x y r]; constructor <;> (rintro (h | h | h) <;> simp [h])
theorem mem_isort (y : Int) : ∀ r, y ∈ isort r ↔ y ∈ r
  | [] => by simp [isort]
  | x :: r => by simp [isort, mem_ins, mem_isort y r]
theorem ins_up (x : Int) : ∀ r : List Int, r.Pairwise (· < ·) → x ∉ r → (ins x r).Pairwise (· < ·)
  | [], _, _ => by simp [ins]
  | z :: r, h, hx => by
    have hz := List.pairwise_cons.1 h
    unfold ins
    split
    · rename_i hle
      have hne : x ≠ z := fun e => hx (by simp [e])
      refine List.pairwise_cons.2 ⟨?_, h⟩
      intro y hy
      rcases List.mem_cons.1 hy with rfl | hy
      · omega
      · have := hz.1 y hy; omega
    · refine List.pairwise_cons.2 ⟨?_, ins_up x r hz.2 (fun e => hx (List.mem_cons_of_mem _ e))⟩
      intro y hy
      rcases (mem_ins x y r).1 hy with rfl | hy
      · omega
      · exact hz.1 y hy
theorem isort_up : ∀ r : List Int, r.Nodup → (isort r).Pairwise (· < ·)
  | [], _ => by simp [isort]
  | x :: r, h => by
    have hx := List.nodup_cons.1 h
    exact ins_up x _ (isort_up r hx.2) (by rw [mem_isort]; exact hx.1)
theorem up_isort {n : Nat} {r : List Int} (h : r.Nodup) (hm : ∀ x ∈ r, 0 ≤ x ∧ x < n) : Up n (isort r) := ⟨isort_up r h, fun x hx => hm x ((mem_isort x r).1 hx)⟩
theorem Up.nodup {n : Nat} {r : List Int} (h : Up n r) : r.Nodup := h.1.imp (fun h => by omega)
/-- frozen results, one by one -/
theorem wp_mapE {μ : Sto} {X : Str → List D → Sto → Prop} {f : D → M (Option D)} (g : D → D) {xs : List D} {Q : List D → Sto → Prop} (hl : xs.length ≤ LINE)
    (hf : ∀ x ∈ xs, Wp (f x) μ (fun o μ' => μ' = μ ∧ ∃ y, o = some y ∧ y.fz = g x) X)
    (hq : ∀ ys, D.fzL ys = xs.map g → Q ys μ) : Wp (mapC f xs []) μ Q X := by
  refine wp_mapA (fun μ' => μ' = μ) (fun x y => y.fz = g x) xs [] μ Q (by simpa using hl) rfl ?_ ?_
  · intro x hx μ1 h1; rw [h1]; exact hf x hx
  · intro ys μ1 h1 h
    rw [h1]
    refine hq ys ?_
    clear hq hf hl
    induction h with
    | nil => rfl
    | cons h t ih => simp [D.fzL, h, ih]
section
variable {μ : Sto} {X : Str → List D → Sto → Prop} {n : Nat}
theorem s_drop_table {k : Nat} (hk : 1 ≤ k) (hn : n ≤ 16) : Wp (run pp k (Str.ofString "drop_table") [.int n]) μ (Pu (· = Dr n) μ) X := by
  obtain ⟨k, rfl⟩ : ∃ j, k = j + 1 := ⟨k - 1, by omega⟩
  rw [e_drop_table]
  simp_arith [P50.f_drop_table]
  refine ⟨by omega, ?_⟩
  refine wp_mapE (fun _ => .lst false []) (by simp [line_eq]; omega) ?_ ?_
  · intro x hx
    simp_arith []
    exact ⟨_, rfl, rfl⟩
  · intro ys h
    simp_arith [h]
    simp [Dr]
    rw [List.eq_replicate_iff]; simp
theorem s_pass_table {k : Nat} (hk : 1 ≤ k) (hn : n ≤ 16) : Wp (run pp k (Str.ofString "pass_table") [.int n]) μ (Pu (Tab n) μ) X := by
  obtain ⟨k, rfl⟩ : ∃ j, k = j + 1 := ⟨k - 1, by omega⟩
  rw [e_pass_table]
  simp_arith [P50.f_pass_table]
  refine ⟨by omega, ?_⟩
  refine wp_mapP (Rw n) (by simp [line_eq]; omega) ?_ ?_
  · intro x hx
    simp at hx
    obtain ⟨i, hi, rfl⟩ := hx
    simp_arith []
    refine ⟨_, rfl, [(i : Int)], rfl, by simp, ?_⟩
    intro x hx; simp at hx; omega
  · intro ys h1 h2
    simp_arith []
    exact ⟨_, rfl, by simpa [fzL_len] using h1, h2⟩
theorem s_copied_table {k : Nat} {t : D} (hk : 1 ≤ k) (hn : n ≤ 16) (ht : Tab n t) : Wp (run pp k (Str.ofString "copied_table") [t]) μ (Pu (· = t) μ) X := by
  obtain ⟨k, rfl⟩ : ∃ j, k = j + 1 := ⟨k - 1, by omega⟩
  have hf := Tab.fz t ht
  obtain ⟨ds, rfl, hl, hr⟩ := ht
  have hd := nbL_of Rw.fz hr
  rw [e_copied_table]
  simp_arith [P50.f_copied_table, hd.1, hd.2]
  refine wp_mapE id (by simp [line_eq]; omega) ?_ ?_
  · intro x hx
    obtain ⟨r, rfl, hu⟩ := hr x hx
    simp_arith [nbL_ints, fzL_ints]
    exact ⟨_, rfl, by simp [D.fz, fzL_ints]⟩
  · intro ys h1
    simp_arith [h1]
    simp
theorem s_joined {k : Nat} {a b : D} (hk : 1 ≤ k) (hn : n ≤ 16) (ha : Rw n a) (hb : Rw n b) : Wp (run pp k (Str.ofString "joined") [a, b]) μ (Pu (Rw n) μ) X := by
  obtain ⟨k, rfl⟩ : ∃ j, k = j + 1 := ⟨k - 1, by omega⟩
  obtain ⟨r, rfl, hr⟩ := ha
  obtain ⟨q, rfl, hq⟩ := hb
  have h1 := hr.len
  have h2 := hq.len
  rw [e_joined]
  simp_arith [P50.f_joined, nbL_ints, fzL_ints]
  refine wp_mapF D.int (fun x => !decide (x ∈ r)) q [] _ (by simp [line_eq]; omega) ?_ ?_
  · intro x hx
    simp_arith [nbL_ints, fzL_ints, w_notIn]
    cases decide (x ∈ r) <;> simp_arith [] <;> simp
  · have h3 : (q.filter fun x => !decide (x ∈ r)).length ≤ q.length := List.length_filter_le _ _
    simp_arith [fzL_ints, ← List.map_append, w_sorted]
    refine ⟨by simp [line_eq]; omega, _, rfl, up_isort ?_ ?_⟩
    · rw [List.nodup_append]
      refine ⟨hr.nodup, (hq.nodup).filter _, ?_⟩
      intro x hx y hy e
      subst e
      simp at hy
      exact hy.2 hx
    · intro x hx
      rcases List.mem_append.1 hx with h | h
      · exact hr.2 x h
      · exact hq.2 x (List.mem_filter.1 h).1
end
/-! W3 -/
def DK (ks : List Int) : D := .dct true (ks.map .inl) (List.replicate ks.length (.bl true))
theorem kget_DK (x : Int) : ∀ ks : List Int, (kget (ks.map .inl) (List.replicate ks.length (.bl true)) (.inl x)).isSome = decide (x ∈ ks)
  | [] => by simp [kget]
  | y :: ks => by
    simp only [List.map_cons, List.length_cons, List.replicate_succ, kget]
    by_cases h : y = x
    · subst h; simp
    · have h' : ¬ x = y := fun e => h e.symm
      rw [if_neg (by simpa using h), kget_DK x ks]
      simp [h']
theorem krep_DK (x : Int) : ∀ ks : List Int, krep (ks.map .inl) (List.replicate ks.length (.bl true)) (.inl x) (.bl true) = List.replicate ks.length (.bl true)
  | [] => by simp [krep]
  | y :: ks => by
    simp only [List.map_cons, List.length_cons, List.replicate_succ, krep]
    rw [krep_DK x ks]
    simp
theorem any_DK (x : Int) : ∀ ks : List Int, (ks.map (Sum.inl : Int → Key)).any (fun k => decide (k = .inl x)) = decide (x ∈ ks)
  | [] => by simp
  | y :: ks => by
    simp only [List.map_cons, List.any_cons, any_DK x ks]
    by_cases h : y = x
    · subst h; simp
    · have h' : ¬ x = y := fun e => h e.symm
      simp [h, h']
def addK (x : Int) (ks : List Int) : List Int := if x ∈ ks then ks else ks ++ [x]
theorem kput_DK (x : Int) (ks : List Int) : D.dct true (kput (ks.map .inl) (List.replicate ks.length (.bl true)) (.inl x) (.bl true)).1 (kput (ks.map .inl) (List.replicate ks.length (.bl true)) (.inl x) (.bl true)).2 = DK (addK x ks) := by
  unfold kput addK DK
  rw [any_DK, krep_DK]
  by_cases h : x ∈ ks
  · simp [h]
  · simp [h, List.replicate_succ']
section
variable {μ : Sto} {X : Str → List D → Sto → Prop} {n : Nat} {Q : D → Sto → Prop}
theorem w_putDK {x : Int} {ks : List Int} : Wp (putD (DK ks) (.int x) (.bl true)) μ Q X = (ks.length < LINE ∧ Q (DK (addK x ks)) μ) := by
  rw [← kput_DK]
  simp only [DK, putD, keyOf, wp_guard, wp_ret, List.length_map, decide_eq_true_eq]
theorem w_notInDK {x : Int} {ks : List Int} : Wp (cmpD .notIn (.int x) (DK ks)) μ Q X = Q (.bl (!decide (x ∈ ks))) μ := by
  simp only [DK, cmpD, inD, keyOf, Option.map, kget_DK, wp_some]
theorem inb_DK {ks : List Int} : (DK ks).inb = true := by
  simp [DK, D.inb, nbL_eq, D.nb]
theorem w_sortedDK {ks : List Int} : Wp (bltD .sorted (DK ks)) μ Q X = (ks.length < 64 ∧ Q (.lst true ((isort ks).map .int)) μ) := w_sortedD
end
def NK (n : Nat) (ks : List Int) : Prop := ks.Nodup ∧ ∀ x ∈ ks, 0 ≤ x ∧ x < n
theorem len_ins (x : Int) : ∀ r, (ins x r).length = r.length + 1
  | [] => rfl
  | y :: r => by unfold ins; split <;> simp [len_ins x r]
theorem len_isort : ∀ r, (isort r).length = r.length
  | [] => rfl
  | x :: r => by simp [isort, len_ins, len_isort r]
theorem NK.up {n : Nat} {ks : List Int} (h : NK n ks) : Up n (isort ks) := up_isort h.1 h.2
theorem NK.len {n : Nat} {ks : List Int} (h : NK n ks) : ks.length ≤ n := by
  have := h.up.len
  rwa [len_isort] at this
theorem NK.add {n : Nat} {ks : List Int} {x : Int} (h : NK n ks) (hx : 0 ≤ x ∧ x < n) : NK n (addK x ks) := by
  unfold addK
  split
  · exact h
  · rename_i hn
    refine ⟨?_, ?_⟩
    · rw [List.nodup_append]
      refine ⟨h.1, by simp, ?_⟩
      intro a ha b hb e
      simp at hb
      subst hb; subst e
      exact hn ha
    · intro y hy
      rcases List.mem_append.1 hy with h' | h'
      · exact h.2 y h'
      · simp at h'; subst h'; exact hx
theorem wp_whl {X : Str → List D → Sto → Prop} {c : Env → M Bool} {f : Env → M Fl} {Q : Fl → Sto → Prop} (I : Nat → Env → Sto → Prop) (R : D → Sto → Prop)
    (hR : ∀ d μ, R d μ → Q (.rt d) μ)
    (hs : ∀ m ρ μ, I m ρ μ → Wp (c ρ) μ (fun b μ' => (b = false → Q (.nx ρ) μ') ∧ (b = true → ∃ m', m = m' + 1 ∧ Wp (f ρ) μ' (FlI (I m') R) X)) X) :
    ∀ (n m : Nat) (ρ : Env) (μ : Sto), m < n → I m ρ μ → Wp (whl c f n ρ) μ Q X
  | 0, m, ρ, μ, h, _ => by omega
  | n + 1, m, ρ, μ, h, hi => by
    rw [whl, wp_bind]
    refine (hs m ρ μ hi).mono ?_
    intro b μ1 hb
    cases b with
    | false => rw [wp_ret]; exact hb.1 rfl
    | true =>
      obtain ⟨m', rfl, hw⟩ := hb.2 rfl
      simp only [wp_bind]
      refine hw.mono ?_
      intro fl μ2 hfl
      cases fl with
      | nx ρ' => exact wp_whl I R hR hs n m' ρ' μ2 (by omega) hfl
      | cont ρ' => exact wp_whl I R hR hs n m' ρ' μ2 (by omega) hfl
      | brk _ => exact hfl.elim
      | rt d => rw [wp_ret]; exact hR d μ2 hfl
theorem rw_get {n : Nat} {ds : List D} (hl : ds.length = n) {x : Int} (hx : 0 ≤ x ∧ x < n) : ∃ j : Nat, x = j ∧ ∃ h : j < ds.length, L2.atI ds x = some ds[j] := by
  refine ⟨x.toNat, by omega, by omega, ?_⟩
  have h := atI_nat ds x.toNat
  rw [show ((x.toNat : Nat) : Int) = x by omega] at h
  rw [h, List.getElem?_eq_getElem]
section
variable {μ : Sto} {X : Str → List D → Sto → Prop} {n : Nat}
theorem s_outs_of_numbers {k : Nat} {a b : D} (hk : 1 ≤ k) (hn : n ≤ 16) (ha : Tab n a) (hb : Rw n b) : Wp (run pp k (Str.ofString "outs_of_numbers") [a, b]) μ (Pu (Rw n) μ) X := by
  obtain ⟨k, rfl⟩ : ∃ j, k = j + 1 := ⟨k - 1, by omega⟩
  obtain ⟨ds, rfl, hl, hr⟩ := ha
  obtain ⟨q, rfl, hq⟩ := hb
  have hd := nbL_of Rw.fz hr
  rw [e_outs_of_numbers]
  simp_arith [P50.f_outs_of_numbers, nbL_ints, fzL_ints]
  refine wp_for (fun _ _ => False) _ (fun i ρ μ' => μ' = μ ∧ ∃ ks x y, ρ = [some (.lst false ds), some (.lst false (q.map .int)), some (DK ks), x, y] ∧ NK n ks) _ _ ⟨rfl, [], none, none, rfl, by simp [NK]⟩ ?_ ?_ (fun _ _ h => h.elim)
  · rintro i hi _ μ ⟨rfl, ks, x, y, rfl, hk⟩
    have hi' : i < q.length := by simpa using hi
    simp only [List.getElem_map]
    have hx := hq.2 q[i] (List.getElem_mem hi')
    obtain ⟨j, hj, hj', hg⟩ := rw_get hl hx
    obtain ⟨r, hr1, hr2⟩ := hr ds[j] (List.getElem_mem hj')
    simp_arith [nbL_ints, fzL_ints, hd.1, hd.2, hg, hr1]
    refine wp_for (fun _ _ => False) _ (fun i' ρ μ' => μ' = μ ∧ ∃ ks y, ρ = [some (.lst false ds), some (.lst false (q.map .int)), some (DK ks), some (.int q[i]), y] ∧ NK n ks) _ _ ⟨rfl, ks, y, rfl, hk⟩ ?_ ?_ (fun _ _ h => h.elim)
    · rintro i2 hi2 _ μ ⟨rfl, ks, y, rfl, hk⟩
      have hi2' : i2 < r.length := by simpa using hi2
      simp only [List.getElem_map]
      have hx2 := hr2.2 r[i2] (List.getElem_mem hi2')
      have := hk.len
      simp_arith [w_putDK]
      exact ⟨by simp [line_eq]; omega, _, _, rfl, hk.add hx2⟩
    · rintro _ μ ⟨rfl, ks, y, rfl, hk⟩
      simp_arith []
      exact ⟨ks, _, _, rfl, hk⟩
  · rintro _ μ ⟨rfl, ks, x, y, rfl, hk⟩
    have := hk.len
    simp_arith [inb_DK, w_sortedDK, fzL_ints]
    exact ⟨by omega, _, rfl, hk.up⟩
theorem s_table_or {k : Nat} {a b : D} (hk : 2 ≤ k) (hn : n ≤ 16) (ha : Tab n a) (hb : Tab n b) : Wp (run pp k (Str.ofString "table_or") [a, b]) μ (Pu (Tab n) μ) X := by
  obtain ⟨k, rfl⟩ : ∃ j, k = j + 2 := ⟨k - 2, by omega⟩
  obtain ⟨as, rfl, hl, hr⟩ := ha
  obtain ⟨bs, rfl, hl2, hr2⟩ := hb
  have hd := nbL_of Rw.fz hr
  have hd2 := nbL_of Rw.fz hr2
  rw [e_table_or]
  simp_arith [P50.f_table_or, hd.1, hd.2, hd2.1, hd2.2]
  refine wp_mapP (Rw n) (by simp [line_eq, len_zipD]; omega) ?_ ?_
  · intro x hx
    obtain ⟨a, ha, b, hb, rfl⟩ := mem_zipD hx
    have h1 := Rw.fz a (hr a ha)
    have h2 := Rw.fz b (hr2 b hb)
    simp_arith [h1.1, h1.2, h2.1, h2.2]
    refine (s_joined (by omega) hn (hr a ha) (hr2 b hb)).mono ?_
    rintro d _ ⟨rfl, h⟩
    exact ⟨rfl, _, rfl, h⟩
  · intro ys h1 h2
    simp_arith []
    exact ⟨_, rfl, by simp [fzL_len, h1, len_zipD]; omega, h2⟩
theorem s_table_then {k : Nat} {a b : D} (hk : 2 ≤ k) (hn : n ≤ 16) (ha : Tab n a) (hb : Tab n b) : Wp (run pp k (Str.ofString "table_then") [a, b]) μ (Pu (Tab n) μ) X := by
  obtain ⟨k, rfl⟩ : ∃ j, k = j + 2 := ⟨k - 2, by omega⟩
  have h2 := Tab.fz b hb
  obtain ⟨as, rfl, hl, hr⟩ := ha
  have hd := nbL_of Rw.fz hr
  rw [e_table_then]
  simp_arith [P50.f_table_then, hd.1, hd.2]
  refine wp_mapP (Rw n) (by simp [line_eq]; omega) ?_ ?_
  · intro x hx
    have h1 := Rw.fz x (hr x hx)
    simp_arith [h1.1, h1.2, h2.1, h2.2]
    refine (s_outs_of_numbers (by omega) hn hb (hr x hx)).mono ?_
    rintro d _ ⟨rfl, h⟩
    exact ⟨rfl, _, rfl, h⟩
  · intro ys h1 h2
    simp_arith []
    exact ⟨_, rfl, by simp [fzL_len, h1]; omega, h2⟩
theorem s_all_behind {k : Nat} {a : D} {x : Int} (hk : 1 ≤ k) (hn : n ≤ 16) (ha : Tab n a) (hx : 0 ≤ x ∧ x < n) : Wp (run pp k (Str.ofString "all_behind") [a, .int x]) μ (Pu (Rw n) μ) X := by
  obtain ⟨k, rfl⟩ : ∃ j, k = j + 1 := ⟨k - 1, by omega⟩
  obtain ⟨ds, rfl, hl, hr⟩ := ha
  have hd := nbL_of Rw.fz hr
  rw [e_all_behind]
  simp_arith [P50.f_all_behind, keyOf]
  refine wp_whl (fun m ρ μ' => μ' = μ ∧ ∃ (ks : List Int) (at' : Nat) (y : Option D), ρ = [some (.lst false ds), some (.int x), some (.lst true (ks.map .int)), some (DK ks), some (.int at'), y] ∧ NK n ks ∧ at' ≤ ks.length ∧ m = n - at') (fun _ _ => False) (fun _ _ h => h.elim) ?_ WF n _ _ (by unfold WF; omega) ⟨rfl, [x], 0, none, rfl, by simp [NK]; omega, by simp, by simp⟩
  rintro m _ μ ⟨rfl, ks, at', y, rfl, hk, hat, rfl⟩
  have hkl := hk.len
  simp_arith [nbL_ints, fzL_ints]
  constructor
  · intro hlt
    have : ks.length < 64 := by omega
    simp_arith [nbL_ints, w_sorted, fzL_ints]
    exact ⟨_, rfl, hk.up⟩
  · intro hlt
    have hlt' : at' < ks.length := by simpa using hlt
    refine ⟨n - (at' + 1), by omega, ?_⟩
    have hx2 := hk.2 ks[at'] (List.getElem_mem hlt')
    obtain ⟨j, hj, hj', hg⟩ := rw_get hl hx2
    obtain ⟨r, hr1, hr2⟩ := hr ds[j] (List.getElem_mem hj')
    have hg2 : L2.atI (ks.map D.int) (at' : Int) = some (.int ks[at']) := by
      rw [atI_nat]; simp [hlt']
    simp_arith [nbL_ints, fzL_ints, hd.1, hd.2, hg2, hg, hr1]
    refine wp_for (fun _ _ => False) _ (fun i ρ μ' => μ' = μ ∧ ∃ (ks : List Int) (y : Option D), ρ = [some (.lst false ds), some (.int x), some (.lst true (ks.map .int)), some (DK ks), some (.int at'), y] ∧ NK n ks ∧ at' < ks.length) _ _ ⟨rfl, ks, y, rfl, hk, hlt'⟩ ?_ ?_ (fun _ _ h => h.elim)
    · rintro i2 hi2 _ μ ⟨rfl, ks, y, rfl, hk, hlt'⟩
      have hi2' : i2 < r.length := by simpa using hi2
      simp only [List.getElem_map]
      have hx2 := hr2.2 r[i2] (List.getElem_mem hi2')
      have := hk.len
      simp_arith [inb_DK, w_notInDK]
      by_cases hm : r[i2] ∈ ks
      · simp_arith [hm]
        exact ⟨ks, _, rfl, hk, hlt'⟩
      · simp_arith [hm, w_putDK]
        refine ⟨by simp [line_eq]; omega, by simp [line_eq]; omega, ks ++ [r[i2]], some (.int r[i2]), ?_, ?_, ?_⟩
        · simp [addK, hm]
        · have := hk.add hx2
          rwa [addK, if_neg hm] at this
        · simp; omega
    · rintro _ μ ⟨rfl, ks, y, rfl, hk, hlt'⟩
      simp_arith [augD]
      exact ⟨ks, at' + 1, _, rfl, hk, by omega, rfl⟩
theorem s_table_again {k : Nat} {a : D} (hk : 2 ≤ k) (hn : n ≤ 16) (ha : Tab n a) : Wp (run pp k (Str.ofString "table_again") [a]) μ (Pu (Tab n) μ) X := by
  obtain ⟨k, rfl⟩ : ∃ j, k = j + 2 := ⟨k - 2, by omega⟩
  have h2 := Tab.fz a ha
  have ha' := ha
  obtain ⟨as, rfl, hl, hr⟩ := ha
  have hd := nbL_of Rw.fz hr
  rw [e_table_again]
  simp_arith [P50.f_table_again, hd.1, hd.2]
  refine ⟨by omega, ?_⟩
  refine wp_mapP (Rw n) (by simp [line_eq]; omega) ?_ ?_
  · intro x hx
    simp at hx
    obtain ⟨i, hi, rfl⟩ := hx
    simp_arith [hd.1, hd.2]
    refine (s_all_behind (by omega) hn ha' (by omega)).mono ?_
    rintro d _ ⟨rfl, h⟩
    exact ⟨rfl, _, rfl, h⟩
  · intro ys h1 h2
    simp_arith []
    exact ⟨_, rfl, by simp [fzL_len, h1]; omega, h2⟩
theorem mem_num : ∀ {ds : List D} {m : Nat} {z : D}, z ∈ num m ds → ∃ i, ∃ h : i < ds.length, z = .tup [.int ((m + i : Nat) : Int), ds[i]]
  | [], _, _, h => by simp [num] at h
  | d :: ds, m, z, h => by
    rw [num] at h
    rcases List.mem_cons.1 h with rfl | h
    · exact ⟨0, by simp, rfl⟩
    · obtain ⟨i, hi, e⟩ := mem_num h
      exact ⟨i + 1, by simp; omega, by rw [e]; simp; omega⟩
theorem len_num : ∀ {ds : List D} {m : Nat}, (num m ds).length = ds.length
  | [], _ => rfl
  | d :: ds, m => by rw [num, List.length_cons, len_num]; rfl
theorem s_table_not {k : Nat} {a : D} (hk : 2 ≤ k) (hn : n ≤ 16) (ha : Tab n a) : Wp (run pp k (Str.ofString "table_not") [a]) μ (Pu (Tab n) μ) X := by
  obtain ⟨k, rfl⟩ : ∃ j, k = j + 2 := ⟨k - 2, by omega⟩
  obtain ⟨as, rfl, hl, hr⟩ := ha
  have hd := nbL_of Rw.fz hr
  rw [e_table_not]
  simp_arith [P50.f_table_not, hd.1, hd.2]
  refine wp_mapP (Rw n) (by simp [line_eq, len_num]; omega) ?_ ?_
  · intro x hx
    obtain ⟨i, hi, rfl⟩ := mem_num hx
    obtain ⟨r, hr1, hr2⟩ := hr as[i] (List.getElem_mem hi)
    rw [hr1]
    simp_arith [nbL_ints, fzL_ints]
    cases (!(List.map D.int r).isEmpty) <;> simp_arith []
    · refine ⟨_, rfl, [((i : Nat) : Int)], by simp [D.fz, D.fzL], by simp, ?_⟩
      intro x hx; simp at hx; omega
    · exact ⟨_, rfl, [], rfl, by simp, by simp⟩
  · intro ys h1 h2
    simp_arith []
    exact ⟨_, rfl, by simp [fzL_len, h1, len_num]; omega, h2⟩
end
/-! W4 -/
/-- a list of the parts -/
def Al (P : D → Prop) (m : Nat) (ds : List D) : Prop := ds.length = m ∧ ∀ x ∈ ds, P x
theorem rep_fz (n m : Nat) : D.nbL (List.replicate m (Dr n)) = true ∧ D.fzL (List.replicate m (Dr n)) = List.replicate m (Dr n) := nbL_of (P := fun d => d = Dr n) (by rintro d rfl; exact Dr_fz n) (by intro x hx; exact (List.mem_replicate.1 hx).2)
theorem tail_len {P : D → Prop} {m : Nat} {ds : List D} (h : ds.length = m + 1) : ds.tail.length = m := by simp; omega
theorem fzL_tab {n : Nat} {ds : List D} (h : ∀ x ∈ ds, Tab n x) : D.nbL ds = true ∧ D.fzL ds = ds := nbL_of Tab.fz h
theorem fzL_goe {n s : Nat} {ds : List D} (h : ∀ x ∈ ds, Goe n s x) : D.nbL ds = true ∧ D.fzL ds = ds := nbL_of Goe.fz h
/-- a machine, laid open -/
theorem Mch.cases {n s : Nat} {d : D} (h : Mch n s d) : ∃ A As G Gs, d = .tup [.lst false (A :: As), .lst false (.lst false (Dr n :: G) :: Gs)] ∧ Tab n A ∧ As.length = s ∧ (∀ x ∈ As, Tab n x) ∧ G.length = s ∧ (∀ x ∈ G, Tab n x) ∧ Gs.length = s ∧ (∀ x ∈ Gs, Goe n s x) := by
  obtain ⟨a, b, rfl, ⟨as, rfl, h1, h2⟩, ⟨bs, rfl, h3, h4⟩⟩ := h
  cases as with
  | nil => simp at h1
  | cons A As =>
    cases bs with
    | nil => simp at h3
    | cons B Bs =>
      obtain ⟨G, rfl, h5, h6⟩ := h4 B List.mem_cons_self
      exact ⟨A, As, G, Bs, rfl, h2 A List.mem_cons_self, by simpa using h1, fun x hx => h2 x (List.mem_cons_of_mem _ hx), h5, h6, by simpa using h3, fun x hx => h4 x (List.mem_cons_of_mem _ hx)⟩
theorem Mch.mk {n s : Nat} {as bs : List D} (h1 : as.length = s + 1) (h2 : ∀ x ∈ as, Tab n x) (h3 : bs.length = s + 1) (h4 : ∀ x ∈ bs, Goe n s x) : Mch n s (.tup [.lst false as, .lst false bs]) := ⟨_, _, rfl, ⟨_, rfl, h1, h2⟩, ⟨_, rfl, h3, h4⟩⟩
theorem Goe.mk {n s : Nat} {cs : List D} (h1 : cs.length = s) (h2 : ∀ x ∈ cs, Tab n x) : Goe n s (.lst false (Dr n :: cs)) := ⟨cs, rfl, h1, h2⟩
section
variable {μ : Sto} {X : Str → List D → Sto → Prop} {n s t : Nat}
theorem s_copied_tables {k : Nat} {ds : List D} (hk : 2 ≤ k) (hn : n ≤ 16) (hl : ds.length ≤ 100) (h : ∀ x ∈ ds, Tab n x) : Wp (run pp k (Str.ofString "copied_tables") [.lst false ds]) μ (Pu (· = .lst false ds) μ) X := by
  obtain ⟨k, rfl⟩ : ∃ j, k = j + 2 := ⟨k - 2, by omega⟩
  have hd := fzL_tab h
  rw [e_copied_tables]
  simp_arith [P50.f_copied_tables, hd.1, hd.2]
  refine wp_mapE id (by simp [line_eq]; omega) ?_ ?_
  · intro x hx
    have h1 := Tab.fz x (h x hx)
    simp_arith [h1.1, h1.2]
    refine (s_copied_table (by omega) hn (h x hx)).mono ?_
    rintro d μ1 ⟨hμ, h⟩
    subst hμ
    exact ⟨rfl, _, rfl, h⟩
  · intro ys h1
    simp_arith [h1]
    simp
theorem s_drops {k m : Nat} {A b : D} {As : List D} (hk : 2 ≤ k) (hn : n ≤ 16) (hm : m ≤ 100) (hA : Tab n A) (hAs : D.nbL As = true ∧ D.fzL As = As) (hb : b.nb = true ∧ b.fz = b) : Wp (run pp k (Str.ofString "drops") [.tup [.lst false (A :: As), b], .int m]) μ (Pu (· = .lst false (List.replicate m (Dr n))) μ) X := by
  obtain ⟨k, rfl⟩ : ∃ j, k = j + 2 := ⟨k - 2, by omega⟩
  have hA' := Tab.fz A hA
  rw [e_drops]
  simp_arith [P50.f_drops]
  refine ⟨by omega, ?_⟩
  refine wp_mapE (fun _ => Dr n) (by simp [line_eq]; omega) ?_ ?_
  · intro x hx
    simp at hx
    obtain ⟨i, hi, rfl⟩ := hx
    simp_arith [hA'.1, hA'.2, hAs.1, hAs.2, hb.1, hb.2, atI_0]
    obtain ⟨ds, hds, hl, hr⟩ := hA
    subst hds
    have hd := nbL_of Rw.fz hr
    simp_arith [hd.1, hd.2, hl]
    refine (s_drop_table (by omega) hn).mono ?_
    rintro d μ1 ⟨hμ, h⟩
    subst hμ
    exact ⟨rfl, _, rfl, h⟩
  · intro ys h1
    simp_arith [h1]
    simp
    rw [List.eq_replicate_iff]; simp
theorem s_machine_of_table {k : Nat} {T : D} (hk : 2 ≤ k) (hn : n ≤ 16) (hT : Tab n T) : Wp (run pp k (Str.ofString "machine_of_table") [T]) μ (Pu (Mch n 0) μ) X := by
  obtain ⟨k, rfl⟩ : ∃ j, k = j + 2 := ⟨k - 2, by omega⟩
  have h1 := Tab.fz T hT
  rw [e_machine_of_table]
  simp_arith [P50.f_machine_of_table, h1.1, h1.2]
  refine (s_copied_table (by omega) hn hT).mono ?_
  rintro d μ1 ⟨hμ, h⟩
  subst hμ
  have hT' := hT
  obtain ⟨ds, hds, hl, hr⟩ := hT
  subst hds
  have hd := nbL_of Rw.fz hr
  simp_arith [hd.1, hd.2, hl]
  refine (s_drop_table (by omega) hn).mono ?_
  rintro d2 μ1 ⟨hμ, h2⟩
  subst hμ
  simp_arith [h, h2]
  refine Mch.mk rfl ?_ rfl ?_
  · simpa using hT'
  · simpa using Goe.mk (s := 0) (n := n) rfl (by simp)
theorem s_halt_machine {k : Nat} (hk : 2 ≤ k) (hn : n ≤ 16) : Wp (run pp k (Str.ofString "halt_machine") [.int n]) μ (Pu (Mch n 1) μ) X := by
  obtain ⟨k, rfl⟩ : ∃ j, k = j + 2 := ⟨k - 2, by omega⟩
  rw [e_halt_machine]
  have hd := Dr_fz n
  simp_arith [P50.f_halt_machine]
  refine (s_drop_table (by omega) hn).mono ?_
  rintro d μ1 ⟨hμ, h1⟩
  subst hμ
  (try simp_arith [])
  refine (s_pass_table (by omega) hn).mono ?_
  rintro e μ1 ⟨hμ, h2⟩
  subst hμ
  have h2' := Tab.fz _ h2
  (try simp_arith [])
  refine (s_drop_table (by omega) hn).mono ?_
  rintro d3 μ1 ⟨hμ, h3⟩
  subst hμ
  (try simp_arith [])
  refine (s_drop_table (by omega) hn).mono ?_
  rintro d4 μ1 ⟨hμ, h4⟩
  subst hμ
  (try simp_arith [])
  refine (s_drop_table (by omega) hn).mono ?_
  rintro d5 μ1 ⟨hμ, h5⟩
  subst hμ
  (try simp_arith [])
  refine (s_pass_table (by omega) hn).mono ?_
  rintro d6 μ1 ⟨hμ, h6⟩
  subst hμ
  simp_arith [h1, h2, h3, h4, h5, hd.1, hd.2, h2'.1, h2'.2]
  refine Mch.mk rfl ?_ rfl ?_
  · intro x hx
    simp at hx
    rcases hx with rfl | rfl
    · exact Tab_Dr n
    · exact h6
  · intro x hx
    simp at hx
    rcases hx with rfl | rfl
    · exact Goe.mk rfl (by simpa using h2)
    · exact Goe.mk rfl (by simpa using Tab_Dr n)
theorem s_count_states {k : Nat} {As : List D} {b : D} (hk : 1 ≤ k) (hAs : D.nbL As = true ∧ D.fzL As = As) (hb : b.nb = true ∧ b.fz = b) : Wp (run pp k (Str.ofString "count_states") [.tup [.lst false As, b]]) μ (fun d μ' => μ' = μ ∧ d = .int ((As.length : Int) - 1)) X := by
  obtain ⟨k, rfl⟩ : ∃ j, k = j + 1 := ⟨k - 1, by omega⟩
  rw [e_count_states]
  simp_arith [P50.f_count_states, hAs.1, hAs.2, hb.1, hb.2, atI_0]
theorem s_rows_behind {k : Nat} {a b : D} (hk : 3 ≤ k) (hn : n ≤ 16) (hs : s ≤ 40) (ht : t ≤ 40) (ha : Mch n s a) (hb : Mch n t b) : Wp (run pp k (Str.ofString "rows_behind") [a, b]) μ (Pu (LP (Goe n (s + t)) t) μ) X := by
  obtain ⟨k, rfl⟩ : ∃ j, k = j + 3 := ⟨k - 3, by omega⟩
  obtain ⟨A, As, G, Gs, rfl, a1, a2, a3, a4, a5, a6, a7⟩ := ha.cases
  obtain ⟨B, Bs, H, Hs, rfl, b1, b2, b3, b4, b5, b6, b7⟩ := hb.cases
  have A1 := Tab.fz A a1
  have A2 := fzL_tab a3
  have A3 := fzL_tab a5
  have A4 := fzL_goe a7
  have B1 := Tab.fz B b1
  have B2 := fzL_tab b3
  have B3 := fzL_tab b5
  have B4 := fzL_goe b7
  have hd := Dr_fz n
  rw [e_rows_behind]
  simp_arith [P50.f_rows_behind, A1.1, A1.2, A2.1, A2.2, A3.1, A3.2, A4.1, A4.2, hd.1, hd.2]
  refine (s_count_states (by omega) (by simp [D.nbL, D.fzL, A1.1, A1.2, A2.1, A2.2]) (by simp [D.nb, D.nbL, D.fz, D.fzL, A1.1, A1.2, A2.1, A2.2, A3.1, A3.2, A4.1, A4.2, hd.1, hd.2])).mono ?_
  rintro d μ1 ⟨hμ, rfl⟩
  subst hμ
  simp_arith [A1.1, A1.2, A2.1, A2.2, A3.1, A3.2, A4.1, A4.2, hd.1, hd.2, B1.1, B1.2, B2.1, B2.2, B3.1, B3.2, B4.1, B4.2, atI_1, cut_1, List.tail_cons]
  refine wp_mapP (Goe n (s + t)) (by simp [line_eq]; omega) ?_ ?_
  · intro x hx
    obtain ⟨c, rfl, hc, hc2⟩ := b7 x hx
    have C := fzL_tab hc2
    simp_arith [A1.1, A1.2, A2.1, A2.2, A3.1, A3.2, A4.1, A4.2, hd.1, hd.2, C.1, C.2, a2]
    rw [show (1 : Int) + (((s + 1 : Nat) : Int) - 1) = ((s + 1 : Nat) : Int) by omega]
    refine (s_drops (by omega) hn (by omega) a1 A2 (by simp [D.nb, D.nbL, D.fz, D.fzL, A1.1, A1.2, A2.1, A2.2, A3.1, A3.2, A4.1, A4.2, hd.1, hd.2])).mono ?_
    rintro d μ1 ⟨hμ, h⟩
    subst hμ
    simp_arith [h, hd.1, hd.2, C.1, C.2, cut_1, List.tail_cons]
    refine (s_copied_tables (by omega) hn (by omega) hc2).mono ?_
    rintro d2 μ1 ⟨hμ, h2⟩
    subst hμ
    simp_arith [h2, fzL_app, C.2, (rep_fz n (s + 1)).2, List.length_replicate]
    refine ⟨by simp [line_eq]; omega, _, rfl, ?_⟩
    rw [List.replicate_succ, List.cons_append]
    simp only [D.fz, D.fzL, fzL_app, (rep_fz n s).2, hd.2, C.2]
    refine Goe.mk (by simp [hc]) ?_
    intro x hx
    rcases List.mem_append.1 hx with h | h
    · rw [(List.mem_replicate.1 h).2]; exact Tab_Dr n
    · exact hc2 x h
  · intro ys h1 h2
    (try simp_arith [])
    exact ⟨_, rfl, by simp [fzL_len, h1]; omega, h2⟩
end
/-! W5 -/
theorem pairs_zip {P R : D → Prop} {xs ys : List D} (h : ∀ x ∈ xs, P x) (g : ∀ y ∈ ys, R y) : ∀ i (hi : i < (zipD xs ys).length), ∃ x y, (zipD xs ys)[i] = .tup [x, y] ∧ P x ∧ R y := by
  intro i hi
  obtain ⟨x, hx, y, hy, e⟩ := mem_zipD (List.getElem_mem hi)
  exact ⟨x, y, e, h x hx, g y hy⟩
section
variable {μ : Sto} {X : Str → List D → Sto → Prop} {n s t : Nat}
theorem s_machine_or {k : Nat} {a b : D} (hk : 4 ≤ k) (hn : n ≤ 16) (hs : s ≤ 30) (ht : t ≤ 30) (ha : Mch n s a) (hb : Mch n t b) : Wp (run pp k (Str.ofString "machine_or") [a, b]) μ (Pu (Mch n (s + t)) μ) X := by
  obtain ⟨k, rfl⟩ : ∃ j, k = j + 4 := ⟨k - 4, by omega⟩
  have ha0 := ha
  have hb0 := hb
  have Ha := Mch.fz a ha
  have Hb := Mch.fz b hb
  obtain ⟨A, As, G, Gs, rfl, a1, a2, a3, a4, a5, a6, a7⟩ := ha.cases
  obtain ⟨B, Bs, H, Hs, rfl, b1, b2, b3, b4, b5, b6, b7⟩ := hb.cases
  have A1 := Tab.fz A a1
  have A2 := fzL_tab a3
  have A3 := fzL_tab a5
  have A4 := fzL_goe a7
  have B1 := Tab.fz B b1
  have B2 := fzL_tab b3
  have B3 := fzL_tab b5
  have B4 := fzL_goe b7
  have hd := Dr_fz n
  rw [e_machine_or]
  simp_arith [P50.f_machine_or, A1.1, A1.2, A2.1, A2.2, A3.1, A3.2, A4.1, A4.2, hd.1, hd.2, B1.1, B1.2, B2.1, B2.2, B3.1, B3.2, B4.1, B4.2, atI_0, atI_1, cut_1, List.tail_cons]
  refine (s_table_or (by omega) hn a1 b1).mono ?_
  rintro d1 μ1 ⟨hμ, h1⟩
  subst hμ
  have h1' := Tab.fz _ h1
  (try simp_arith [A1.1, A1.2, A2.1, A2.2])
  refine (s_copied_tables (by omega) hn (by omega) a3).mono ?_
  rintro d2 μ1 ⟨hμ, h2⟩
  subst hμ
  (try simp_arith [h2])
  refine ⟨by simp [line_eq, fzL_len]; omega, ?_⟩
  refine (s_copied_tables (by omega) hn (by omega) b3).mono ?_
  rintro d3 μ1 ⟨hμ, h3⟩
  subst hμ
  (try simp_arith [h3, h1'.2, A2.2])
  refine ⟨by simp [line_eq, fzL_len]; omega, ?_⟩
  refine (s_drops (m := 1) (by omega) hn (by omega) a1 A2 (by simp [D.nb, D.nbL, D.fz, D.fzL, A3.1, A3.2, A4.1, A4.2, hd.1, hd.2])).mono ?_
  rintro d4 μ1 ⟨hμ, h4⟩
  subst hμ
  (try simp_arith [h4])
  refine (s_copied_tables (by omega) hn (by omega) a5).mono ?_
  rintro d5 μ1 ⟨hμ, h5⟩
  subst hμ
  (try simp_arith [h5])
  refine ⟨by simp [line_eq, fzL_len]; omega, ?_⟩
  refine (s_copied_tables (by omega) hn (by omega) b5).mono ?_
  rintro d6 μ1 ⟨hμ, h6⟩
  subst hμ
  (try simp_arith [h6, A3.2, hd.2])
  refine ⟨by simp [line_eq, fzL_len]; omega, ?_⟩
  refine wp_for (fun _ _ => False) _ (fun i ρ μ' => μ' = μ1 ∧ ∃ gs r, ρ = [some (.tup [.lst false (A :: As), .lst false (.lst false (Dr n :: G) :: Gs)]), some (.tup [.lst false (B :: Bs), .lst false (.lst false (Dr n :: H) :: Hs)]), some (.lst false (d1.fz :: (As ++ Bs))), some (.lst true gs), r] ∧ gs.length = 1 + i ∧ ∀ x ∈ D.fzL gs, Goe n (s + t) x) _ _ ⟨rfl, [.lst true (Dr n :: (G ++ H))], none, ?_, by simp, ?_⟩ ?_ ?_ (fun _ _ h => h.elim)
  · simp [fzL_app, A2.2, B2.2, D.fzL, D.fz, h1'.2, A3.2, hd.2]
  · intro x hx
    simp only [D.fzL, D.fz, fzL_app, hd.2, A3.2, B3.2, List.mem_singleton] at hx
    subst hx
    refine Goe.mk (by simp; omega) ?_
    intro x hx
    rcases List.mem_append.1 hx with h | h
    · exact a5 x h
    · exact b5 x h
  · rintro i hi _ _ ⟨hμ, gs, r, rfl, hg, hgs⟩
    subst hμ
    obtain ⟨c, hc0, hc, hc2⟩ := a7 _ (List.getElem_mem hi)
    have C := fzL_tab hc2
    rw [hc0]
    simp_arith [C.1, C.2, hd.1, hd.2]
    refine (s_copied_tables (ds := Dr n :: c) (by omega) hn (by simp; omega) ?_).mono ?_
    · intro x hx
      rcases List.mem_cons.1 hx with rfl | h
      · exact Tab_Dr n
      · exact hc2 x h
    rintro d7 μ2 ⟨hμ, h7⟩
    subst hμ
    simp only [D.nb, D.nbL, Bool.and_true, Bool.not_false, Bool.true_and] at Ha Hb
    (try simp_arith [h7, A1.1, A1.2, A2.1, A2.2, A3.1, A3.2, A4.1, A4.2, hd.1, hd.2, B1.1, B1.2, B2.1, B2.2, B3.1, B3.2, B4.1, B4.2])
    refine (s_count_states (by omega) (by simp [D.nbL, D.fzL, B1.1, B1.2, B2.1, B2.2]) (by simp [D.nb, D.nbL, D.fz, D.fzL, B3.1, B3.2, B4.1, B4.2, hd.1, hd.2])).mono ?_
    rintro d8 μ2 ⟨hμ, h8⟩
    subst hμ; subst h8
    (try simp_arith [b2])
    rw [show (((t + 1 : Nat) : Int) - 1) = (t : Int) by omega]
    refine (s_drops (by omega) hn (by omega) a1 A2 (by simp [D.nb, D.nbL, D.fz, D.fzL, A3.1, A3.2, A4.1, A4.2, hd.1, hd.2])).mono ?_
    rintro d9 μ2 ⟨hμ, h9⟩
    subst hμ
    (try simp_arith [h9, List.length_replicate, hg])
    refine ⟨by simp [line_eq, fzL_len]; omega, by simp [line_eq, fzL_len]; omega, ?_⟩
    refine ⟨gs ++ [.lst true (Dr n :: (c ++ List.replicate t (Dr n)))], _, rfl, by simp; omega, ?_⟩
    intro x hx
    rw [fzL_app] at hx
    rcases List.mem_append.1 hx with h | h
    · exact hgs x h
    · simp only [D.fzL, D.fz, fzL_app, hd.2, C.2, (rep_fz n t).2, List.mem_singleton] at h
      subst h
      refine Goe.mk (by simp; omega) ?_
      intro x hx
      rcases List.mem_append.1 hx with h | h
      · exact hc2 x h
      · rw [(List.mem_replicate.1 h).2]; exact Tab_Dr n
  · rintro _ _ ⟨hμ, gs, r, rfl, hg, hgs⟩
    subst hμ
    have E := fzL_goe hgs
    (try simp_arith [E.1, E.2, A1.1, A1.2, A2.1, A2.2, A3.1, A3.2, A4.1, A4.2, hd.1, hd.2, B1.1, B1.2, B2.1, B2.2, B3.1, B3.2, B4.1, B4.2, h1'.1, h1'.2, nbL_app, fzL_app])
    refine (s_rows_behind (by omega) hn (by omega) (by omega) ha0 hb0).mono ?_
    rintro d9 μ2 ⟨hμ, ls, h9, h10, h11⟩
    subst hμ
    have F := fzL_goe h11
    (try simp_arith [h9, E.2, fzL_app, F.2, fzL_len, h1'.2, A2.2, B2.2])
    refine ⟨by simp [line_eq, fzL_len]; omega, ?_⟩
    refine Mch.mk (by simp; omega) ?_ (by simp [fzL_len]; omega) ?_
    · intro x hx
      rcases List.mem_cons.1 hx with rfl | hx
      · exact h1
      · rcases List.mem_append.1 hx with h | h
        · exact a3 x h
        · exact b3 x h
    · intro x hx
      rcases List.mem_append.1 hx with h | h
      · exact hgs x h
      · exact h11 x h
theorem s_machine_then {k : Nat} {a b : D} (hk : 4 ≤ k) (hn : n ≤ 16) (hs : s ≤ 30) (ht : t ≤ 30) (ha : Mch n s a) (hb : Mch n t b) : Wp (run pp k (Str.ofString "machine_then") [a, b]) μ (Pu (Mch n (s + t)) μ) X := by
  obtain ⟨k, rfl⟩ : ∃ j, k = j + 4 := ⟨k - 4, by omega⟩
  have ha0 := ha
  have hb0 := hb
  obtain ⟨A, As, G, Gs, rfl, a1, a2, a3, a4, a5, a6, a7⟩ := ha.cases
  obtain ⟨B, Bs, H, Hs, rfl, b1, b2, b3, b4, b5, b6, b7⟩ := hb.cases
  have A1 := Tab.fz A a1
  have A2 := fzL_tab a3
  have A3 := fzL_tab a5
  have A4 := fzL_goe a7
  have B1 := Tab.fz B b1
  have B2 := fzL_tab b3
  have B3 := fzL_tab b5
  have B4 := fzL_goe b7
  have hd := Dr_fz n
  have aA : ∀ x ∈ A :: As, Tab n x := by
    intro x hx
    rcases List.mem_cons.1 hx with rfl | h
    · exact a1
    · exact a3 x h
  have aG : ∀ x ∈ (.lst false (Dr n :: G)) :: Gs, Goe n s x := by
    intro x hx
    rcases List.mem_cons.1 hx with rfl | h
    · exact Goe.mk a4 a5
    · exact a7 x h
  rw [e_machine_then]
  simp_arith [P50.f_machine_then, A1.1, A1.2, A2.1, A2.2, A3.1, A3.2, A4.1, A4.2, hd.1, hd.2, B1.1, B1.2, B2.1, B2.2, B3.1, B3.2, B4.1, B4.2, atI_0, atI_1, cut_1, List.tail_cons]
  refine wp_mapP (Tab n) (by simp [line_eq]; omega) ?_ ?_
  · intro x hx
    have h1 := Tab.fz x (aA x hx)
    (try simp_arith [A1.1, A1.2, A2.1, A2.2, A3.1, A3.2, A4.1, A4.2, hd.1, hd.2, B1.1, B1.2, B2.1, B2.2, B3.1, B3.2, B4.1, B4.2, atI_0, atI_1, h1.1, h1.2])
    refine (s_table_then (by omega) hn (aA x hx) b1).mono ?_
    rintro d μ1 ⟨hμ, h⟩
    subst hμ
    exact ⟨rfl, _, rfl, h⟩
  intro ys y1 y2
  have Y := fzL_tab y2
  (try simp_arith [B2.1, B2.2])
  refine (s_copied_tables (by omega) hn (by omega) b3).mono ?_
  rintro d2 μ1 ⟨hμ, h2⟩
  subst hμ
  (try simp_arith [h2, fzL_len, y1])
  refine ⟨by simp [line_eq]; omega, ?_⟩
  have Z := pairs_zip aA aG
  have hz : (zipD (A :: As) (.lst false (Dr n :: G) :: Gs)).length = s + 1 := by rw [len_zipD]; simp; omega
  refine wp_for (fun _ _ => False) _ (fun i ρ μ' => μ' = μ1 ∧ ∃ gs r1 r2 r3, ρ = [some (.tup [.lst false (A :: As), .lst false (.lst false (Dr n :: G) :: Gs)]), some (.tup [.lst false (B :: Bs), .lst false (.lst false (Dr n :: H) :: Hs)]), some (.lst false (D.fzL ys ++ Bs)), r1, some (.lst true gs), r2, r3] ∧ gs.length = i ∧ ∀ x ∈ D.fzL gs, Goe n (s + t) x) _ _ ⟨rfl, [], none, none, none, ?_, by simp, by simp [D.fzL]⟩ ?_ ?_ (fun _ _ h => h.elim)
  · simp [fzL_app, B2.2, Y.2]
  · rintro i hi _ _ ⟨hμ, gs, r1, r2, r3, rfl, hg, hgs⟩
    subst hμ
    obtain ⟨x, y, e, hx, c, hc0, hc, hc2⟩ := Z i hi
    subst hc0
    have C := fzL_tab hc2
    have x1 := Tab.fz x hx
    rw [e]
    simp_arith [C.1, C.2, hd.1, hd.2, x1.1, x1.2]
    refine (s_copied_tables (ds := Dr n :: c) (by omega) hn (by simp; omega) ?_).mono ?_
    · intro x hx
      rcases List.mem_cons.1 hx with rfl | h
      · exact Tab_Dr n
      · exact hc2 x h
    rintro d7 μ2 ⟨hμ, h7⟩
    subst hμ
    (try simp_arith [h7, A1.1, A1.2, A2.1, A2.2, A3.1, A3.2, A4.1, A4.2, hd.1, hd.2, B1.1, B1.2, B2.1, B2.2, B3.1, B3.2, B4.1, B4.2, atI_0, atI_1, cut_1, List.tail_cons])
    refine wp_mapP (Tab n) (by simp [line_eq]; omega) ?_ ?_
    · intro z hz
      have z1 := Tab.fz z (b5 z hz)
      (try simp_arith [z1.1, z1.2, x1.1, x1.2])
      refine (s_table_then (by omega) hn hx (b5 z hz)).mono ?_
      rintro d μ1 ⟨hμ, h⟩
      subst hμ
      exact ⟨rfl, _, rfl, h⟩
    intro zs z1 z2
    have Zs := fzL_tab z2
    (try simp_arith [fzL_len, hg, z1])
    refine ⟨by simp [line_eq, fzL_len]; omega, by simp [line_eq]; omega, ?_⟩
    refine ⟨gs ++ [.lst true (Dr n :: (c ++ D.fzL zs))], _, _, _, rfl, by simp; omega, ?_⟩
    intro x hx
    rw [fzL_app] at hx
    rcases List.mem_append.1 hx with h | h
    · exact hgs x h
    · simp only [D.fzL, D.fz, fzL_app, hd.2, C.2, Zs.2, List.mem_singleton] at h
      subst h
      refine Goe.mk (by simp [fzL_len]; omega) ?_
      intro x hx
      rcases List.mem_append.1 hx with h | h
      · exact hc2 x h
      · exact z2 x h
  · rintro _ _ ⟨hμ, gs, r1, r2, r3, rfl, hg, hgs⟩
    subst hμ
    rw [hz] at hg
    have E := fzL_goe hgs
    (try simp_arith [E.1, E.2, A1.1, A1.2, A2.1, A2.2, A3.1, A3.2, A4.1, A4.2, hd.1, hd.2, B1.1, B1.2, B2.1, B2.2, B3.1, B3.2, B4.1, B4.2, Y.1, Y.2, nbL_app, fzL_app])
    refine (s_rows_behind (by omega) hn (by omega) (by omega) ha0 hb0).mono ?_
    rintro d9 μ2 ⟨hμ, ls, h9, h10, h11⟩
    subst hμ
    have F := fzL_goe h11
    (try simp_arith [h9, E.2, fzL_app, F.2, fzL_len, Y.2, A2.2, B2.2])
    refine ⟨by simp [line_eq, fzL_len]; omega, ?_⟩
    refine Mch.mk (by simp [fzL_len] at y1 ⊢; omega) ?_ (by simp [fzL_len]; omega) ?_
    · intro x hx
      rcases List.mem_append.1 hx with h | h
      · exact y2 x h
      · exact b3 x h
    · intro x hx
      rcases List.mem_append.1 hx with h | h
      · exact hgs x h
      · exact h11 x h
theorem s_machine_again {k : Nat} {a : D} (hk : 4 ≤ k) (hn : n ≤ 16) (hs : s ≤ 30) (ha : Mch n s a) : Wp (run pp k (Str.ofString "machine_again") [a]) μ (Pu (Mch n s) μ) X := by
  obtain ⟨k, rfl⟩ : ∃ j, k = j + 4 := ⟨k - 4, by omega⟩
  have ha0 := ha
  obtain ⟨A, As, G, Gs, rfl, a1, a2, a3, a4, a5, a6, a7⟩ := ha.cases
  have A1 := Tab.fz A a1
  have A2 := fzL_tab a3
  have A3 := fzL_tab a5
  have A4 := fzL_goe a7
  have hd := Dr_fz n
  rw [e_machine_again]
  simp_arith [P50.f_machine_again, A1.1, A1.2, A2.1, A2.2, A3.1, A3.2, A4.1, A4.2, hd.1, hd.2, atI_0, atI_1, cut_1, List.tail_cons]
  refine (s_table_again (by omega) hn a1).mono ?_
  rintro d1 μ1 ⟨hμ, h1⟩
  subst hμ
  have h1' := Tab.fz _ h1
  (try simp_arith [A3.1, A3.2, hd.1, hd.2, cut_1, List.tail_cons])
  refine wp_mapP (Tab n) (by simp [line_eq]; omega) ?_ ?_
  · intro x hx
    have x1 := Tab.fz x (a5 x hx)
    (try simp_arith [h1'.1, h1'.2, x1.1, x1.2])
    refine (s_table_then (by omega) hn h1 (a5 x hx)).mono ?_
    rintro d μ1 ⟨hμ, h⟩
    subst hμ
    exact ⟨rfl, _, rfl, h⟩
  intro ys y1 y2
  have Y := fzL_tab y2
  (try simp_arith [])
  refine (s_drops (m := 1) (by omega) hn (by omega) a1 A2 (by simp [D.nb, D.nbL, D.fz, D.fzL, A3.1, A3.2, A4.1, A4.2, hd.1, hd.2])).mono ?_
  rintro d4 μ1 ⟨hμ, h4⟩
  subst hμ
  (try simp_arith [h4, Y.1, Y.2, A2.1, A2.2, A4.1, A4.2, cut_1, List.tail_cons, fzL_len, y1])
  refine ⟨by simp [line_eq]; omega, ?_⟩
  have Z := pairs_zip a3 a7
  have hz : (zipD As Gs).length = s := by rw [len_zipD]; omega
  refine wp_for (fun _ _ => False) _ (fun i ρ μ' => μ' = μ1 ∧ ∃ gs r5 r7 r8, ρ = [some (.tup [.lst false (A :: As), .lst false (.lst false (Dr n :: G) :: Gs)]), some (.lst false (A :: As)), some (.lst false (.lst false (Dr n :: G) :: Gs)), some d1.fz, some (.lst false (D.fzL ys)), r5, some (.lst true gs), r7, r8, none, none] ∧ gs.length = 1 + i ∧ ∀ x ∈ D.fzL gs, Goe n s x) _ _ ⟨rfl, [.lst true (Dr n :: D.fzL ys)], none, none, none, ?_, by simp, ?_⟩ ?_ ?_ (fun _ _ h => h.elim)
  · simp [fzL_app, A2.2, Y.2]
  · intro x hx
    simp only [D.fzL, D.fz, hd.2, Y.2, List.mem_singleton] at hx
    subst hx
    exact Goe.mk (by simp [fzL_len]; omega) y2
  · rintro i hi _ _ ⟨hμ, gs, r5, r7, r8, rfl, hg, hgs⟩
    subst hμ
    obtain ⟨x, y, e, hx, c, hc0, hc, hc2⟩ := Z i hi
    subst hc0
    have C := fzL_tab hc2
    have x1 := Tab.fz x hx
    rw [e]
    simp_arith [C.1, C.2, hd.1, hd.2, x1.1, x1.2, cut_1, List.tail_cons, Y.1, Y.2]
    refine wp_mapP (Tab n) (by simp [line_eq, len_zipD, fzL_len]; omega) ?_ ?_
    · intro z hz
      obtain ⟨u, hu, v, hv, rfl⟩ := mem_zipD hz
      have u1 := Tab.fz u (hc2 u hu)
      have v1 := Tab.fz v (y2 v hv)
      (try simp_arith [u1.1, u1.2, v1.1, v1.2, x1.1, x1.2])
      refine (s_table_then (by omega) hn hx (y2 v hv)).mono ?_
      rintro d μ1 ⟨hμ, h⟩
      subst hμ
      (try simp_arith [u1.2])
      refine (s_table_or (by omega) hn (hc2 u hu) h).mono ?_
      rintro d μ1 ⟨hμ, h⟩
      subst hμ
      exact ⟨rfl, _, rfl, h⟩
    intro zs z1 z2
    have Zs := fzL_tab z2
    have z3 : zs.length = s := by rw [z1, len_zipD, fzL_len]; omega
    (try simp_arith [A1.1, A1.2, A2.1, A2.2, A3.1, A3.2, A4.1, A4.2, hd.1, hd.2])
    refine (s_drops (m := 1) (by omega) hn (by omega) a1 A2 (by simp [D.nb, D.nbL, D.fz, D.fzL, A3.1, A3.2, A4.1, A4.2, hd.1, hd.2])).mono ?_
    rintro d4 μ1 ⟨hμ, h4⟩
    subst hμ
    (try simp_arith [h4, Zs.1, Zs.2, fzL_len, hg])
    refine ⟨by simp [line_eq, z3]; omega, by simp [line_eq]; omega, ?_⟩
    refine ⟨gs ++ [.lst true (Dr n :: D.fzL zs)], some x, some (.lst false (Dr n :: c)), some (.lst false (D.fzL zs)), by simp, by simp; omega, ?_⟩
    intro x hx
    rw [fzL_app] at hx
    rcases List.mem_append.1 hx with h | h
    · exact hgs x h
    · simp only [D.fzL, D.fz, hd.2, Zs.2, List.mem_singleton] at h
      subst h
      exact Goe.mk (by simp [fzL_len]; omega) z2
  · rintro _ _ ⟨hμ, gs, r5, r7, r8, rfl, hg, hgs⟩
    subst hμ
    rw [hz] at hg
    have E := fzL_goe hgs
    (try simp_arith [E.1, E.2, A1.1, A1.2, A2.1, A2.2, h1'.1, h1'.2, cut_1, List.tail_cons])
    refine wp_mapP (Tab n) (by simp [line_eq]; omega) ?_ ?_
    · intro z hz
      have z1 := Tab.fz z (a3 z hz)
      (try simp_arith [z1.1, z1.2, h1'.1, h1'.2])
      refine (s_table_then (by omega) hn (a3 z hz) h1).mono ?_
      rintro d μ1 ⟨hμ, h⟩
      subst hμ
      exact ⟨rfl, _, rfl, h⟩
    intro zs z1 z2
    have Zs := fzL_tab z2
    (try simp_arith [h1'.1, h1'.2, E.1, E.2, Zs.1, Zs.2, fzL_len, z1])
    refine ⟨by simp [line_eq]; omega, ?_⟩
    refine Mch.mk (by simp [fzL_len]; omega) ?_ (by simp [fzL_len]; omega) ?_
    · intro x hx
      rcases List.mem_cons.1 hx with rfl | h
      · exact h1
      · exact z2 x h
    · exact hgs
end
/-! W6 -/
theorem q_drop_halt : cmpD .eq (.str (Str.ofString "drop")) (.str (Str.ofString "halt")) = M.ret (.bl false) := by with_unfolding_all rfl
theorem q_drop_drop : cmpD .eq (.str (Str.ofString "drop")) (.str (Str.ofString "drop")) = M.ret (.bl true) := by with_unfolding_all rfl
theorem q_drop_pass : cmpD .eq (.str (Str.ofString "drop")) (.str (Str.ofString "pass")) = M.ret (.bl false) := by with_unfolding_all rfl
theorem q_drop_test : cmpD .eq (.str (Str.ofString "drop")) (.str (Str.ofString "test")) = M.ret (.bl false) := by with_unfolding_all rfl
theorem q_drop_not : cmpD .eq (.str (Str.ofString "drop")) (.str (Str.ofString "not")) = M.ret (.bl false) := by with_unfolding_all rfl
theorem q_drop_again : cmpD .eq (.str (Str.ofString "drop")) (.str (Str.ofString "again")) = M.ret (.bl false) := by with_unfolding_all rfl
theorem q_drop_or : cmpD .eq (.str (Str.ofString "drop")) (.str (Str.ofString "or")) = M.ret (.bl false) := by with_unfolding_all rfl
theorem q_drop_then : cmpD .eq (.str (Str.ofString "drop")) (.str (Str.ofString "then")) = M.ret (.bl false) := by with_unfolding_all rfl
theorem q_drop_in : cmpD .isIn (.str (Str.ofString "drop")) (.tup [.str (Str.ofString "drop"), .str (Str.ofString "pass"), .str (Str.ofString "test"), .str (Str.ofString "put")]) = M.ret (.bl true) := by with_unfolding_all rfl
theorem q_drop_p : idxD (.dct false [.inr (Str.ofString "drop"), .inr (Str.ofString "pass"), .inr (Str.ofString "test"), .inr (Str.ofString "put"), .inr (Str.ofString "halt"), .inr (Str.ofString "or"), .inr (Str.ofString "then"), .inr (Str.ofString "again"), .inr (Str.ofString "not")] [.int 0, .int 0, .int 0, .int 0, .int 0, .int 2, .int 2, .int 1, .int 1]) (.str (Str.ofString "drop")) = M.ret (.int 0) := by with_unfolding_all rfl
theorem q_pass_halt : cmpD .eq (.str (Str.ofString "pass")) (.str (Str.ofString "halt")) = M.ret (.bl false) := by with_unfolding_all rfl
theorem q_pass_drop : cmpD .eq (.str (Str.ofString "pass")) (.str (Str.ofString "drop")) = M.ret (.bl false) := by with_unfolding_all rfl
theorem q_pass_pass : cmpD .eq (.str (Str.ofString "pass")) (.str (Str.ofString "pass")) = M.ret (.bl true) := by with_unfolding_all rfl
theorem q_pass_test : cmpD .eq (.str (Str.ofString "pass")) (.str (Str.ofString "test")) = M.ret (.bl false) := by with_unfolding_all rfl
theorem q_pass_not : cmpD .eq (.str (Str.ofString "pass")) (.str (Str.ofString "not")) = M.ret (.bl false) := by with_unfolding_all rfl
theorem q_pass_again : cmpD .eq (.str (Str.ofString "pass")) (.str (Str.ofString "again")) = M.ret (.bl false) := by with_unfolding_all rfl
theorem q_pass_or : cmpD .eq (.str (Str.ofString "pass")) (.str (Str.ofString "or")) = M.ret (.bl false) := by with_unfolding_all rfl
theorem q_pass_then : cmpD .eq (.str (Str.ofString "pass")) (.str (Str.ofString "then")) = M.ret (.bl false) := by with_unfolding_all rfl
theorem q_pass_in : cmpD .isIn (.str (Str.ofString "pass")) (.tup [.str (Str.ofString "drop"), .str (Str.ofString "pass"), .str (Str.ofString "test"), .str (Str.ofString "put")]) = M.ret (.bl true) := by with_unfolding_all rfl
theorem q_pass_p : idxD (.dct false [.inr (Str.ofString "drop"), .inr (Str.ofString "pass"), .inr (Str.ofString "test"), .inr (Str.ofString "put"), .inr (Str.ofString "halt"), .inr (Str.ofString "or"), .inr (Str.ofString "then"), .inr (Str.ofString "again"), .inr (Str.ofString "not")] [.int 0, .int 0, .int 0, .int 0, .int 0, .int 2, .int 2, .int 1, .int 1]) (.str (Str.ofString "pass")) = M.ret (.int 0) := by with_unfolding_all rfl
theorem q_test_halt : cmpD .eq (.str (Str.ofString "test")) (.str (Str.ofString "halt")) = M.ret (.bl false) := by with_unfolding_all rfl
theorem q_test_drop : cmpD .eq (.str (Str.ofString "test")) (.str (Str.ofString "drop")) = M.ret (.bl false) := by with_unfolding_all rfl
theorem q_test_pass : cmpD .eq (.str (Str.ofString "test")) (.str (Str.ofString "pass")) = M.ret (.bl false) := by with_unfolding_all rfl
theorem q_test_test : cmpD .eq (.str (Str.ofString "test")) (.str (Str.ofString "test")) = M.ret (.bl true) := by with_unfolding_all rfl
theorem q_test_not : cmpD .eq (.str (Str.ofString "test")) (.str (Str.ofString "not")) = M.ret (.bl false) := by with_unfolding_all rfl
theorem q_test_again : cmpD .eq (.str (Str.ofString "test")) (.str (Str.ofString "again")) = M.ret (.bl false) := by with_unfolding_all rfl
theorem q_test_or : cmpD .eq (.str (Str.ofString "test")) (.str (Str.ofString "or")) = M.ret (.bl false) := by with_unfolding_all rfl
theorem q_test_then : cmpD .eq (.str (Str.ofString "test")) (.str (Str.ofString "then")) = M.ret (.bl false) := by with_unfolding_all rfl
theorem q_test_in : cmpD .isIn (.str (Str.ofString "test")) (.tup [.str (Str.ofString "drop"), .str (Str.ofString "pass"), .str (Str.ofString "test"), .str (Str.ofString "put")]) = M.ret (.bl true) := by with_unfolding_all rfl
theorem q_test_p : idxD (.dct false [.inr (Str.ofString "drop"), .inr (Str.ofString "pass"), .inr (Str.ofString "test"), .inr (Str.ofString "put"), .inr (Str.ofString "halt"), .inr (Str.ofString "or"), .inr (Str.ofString "then"), .inr (Str.ofString "again"), .inr (Str.ofString "not")] [.int 0, .int 0, .int 0, .int 0, .int 0, .int 2, .int 2, .int 1, .int 1]) (.str (Str.ofString "test")) = M.ret (.int 0) := by with_unfolding_all rfl
theorem q_put_halt : cmpD .eq (.str (Str.ofString "put")) (.str (Str.ofString "halt")) = M.ret (.bl false) := by with_unfolding_all rfl
theorem q_put_drop : cmpD .eq (.str (Str.ofString "put")) (.str (Str.ofString "drop")) = M.ret (.bl false) := by with_unfolding_all rfl
theorem q_put_pass : cmpD .eq (.str (Str.ofString "put")) (.str (Str.ofString "pass")) = M.ret (.bl false) := by with_unfolding_all rfl
theorem q_put_test : cmpD .eq (.str (Str.ofString "put")) (.str (Str.ofString "test")) = M.ret (.bl false) := by with_unfolding_all rfl
theorem q_put_not : cmpD .eq (.str (Str.ofString "put")) (.str (Str.ofString "not")) = M.ret (.bl false) := by with_unfolding_all rfl
theorem q_put_again : cmpD .eq (.str (Str.ofString "put")) (.str (Str.ofString "again")) = M.ret (.bl false) := by with_unfolding_all rfl
theorem q_put_or : cmpD .eq (.str (Str.ofString "put")) (.str (Str.ofString "or")) = M.ret (.bl false) := by with_unfolding_all rfl
theorem q_put_then : cmpD .eq (.str (Str.ofString "put")) (.str (Str.ofString "then")) = M.ret (.bl false) := by with_unfolding_all rfl
theorem q_put_in : cmpD .isIn (.str (Str.ofString "put")) (.tup [.str (Str.ofString "drop"), .str (Str.ofString "pass"), .str (Str.ofString "test"), .str (Str.ofString "put")]) = M.ret (.bl true) := by with_unfolding_all rfl
theorem q_put_p : idxD (.dct false [.inr (Str.ofString "drop"), .inr (Str.ofString "pass"), .inr (Str.ofString "test"), .inr (Str.ofString "put"), .inr (Str.ofString "halt"), .inr (Str.ofString "or"), .inr (Str.ofString "then"), .inr (Str.ofString "again"), .inr (Str.ofString "not")] [.int 0, .int 0, .int 0, .int 0, .int 0, .int 2, .int 2, .int 1, .int 1]) (.str (Str.ofString "put")) = M.ret (.int 0) := by with_unfolding_all rfl
theorem q_halt_halt : cmpD .eq (.str (Str.ofString "halt")) (.str (Str.ofString "halt")) = M.ret (.bl true) := by with_unfolding_all rfl
theorem q_halt_drop : cmpD .eq (.str (Str.ofString "halt")) (.str (Str.ofString "drop")) = M.ret (.bl false) := by with_unfolding_all rfl
theorem q_halt_pass : cmpD .eq (.str (Str.ofString "halt")) (.str (Str.ofString "pass")) = M.ret (.bl false) := by with_unfolding_all rfl
theorem q_halt_test : cmpD .eq (.str (Str.ofString "halt")) (.str (Str.ofString "test")) = M.ret (.bl false) := by with_unfolding_all rfl
theorem q_halt_not : cmpD .eq (.str (Str.ofString "halt")) (.str (Str.ofString "not")) = M.ret (.bl false) := by with_unfolding_all rfl
theorem q_halt_again : cmpD .eq (.str (Str.ofString "halt")) (.str (Str.ofString "again")) = M.ret (.bl false) := by with_unfolding_all rfl
theorem q_halt_or : cmpD .eq (.str (Str.ofString "halt")) (.str (Str.ofString "or")) = M.ret (.bl false) := by with_unfolding_all rfl
theorem q_halt_then : cmpD .eq (.str (Str.ofString "halt")) (.str (Str.ofString "then")) = M.ret (.bl false) := by with_unfolding_all rfl
theorem q_halt_in : cmpD .isIn (.str (Str.ofString "halt")) (.tup [.str (Str.ofString "drop"), .str (Str.ofString "pass"), .str (Str.ofString "test"), .str (Str.ofString "put")]) = M.ret (.bl false) := by with_unfolding_all rfl
theorem q_halt_p : idxD (.dct false [.inr (Str.ofString "drop"), .inr (Str.ofString "pass"), .inr (Str.ofString "test"), .inr (Str.ofString "put"), .inr (Str.ofString "halt"), .inr (Str.ofString "or"), .inr (Str.ofString "then"), .inr (Str.ofString "again"), .inr (Str.ofString "not")] [.int 0, .int 0, .int 0, .int 0, .int 0, .int 2, .int 2, .int 1, .int 1]) (.str (Str.ofString "halt")) = M.ret (.int 0) := by with_unfolding_all rfl
theorem q_or_halt : cmpD .eq (.str (Str.ofString "or")) (.str (Str.ofString "halt")) = M.ret (.bl false) := by with_unfolding_all rfl
theorem q_or_drop : cmpD .eq (.str (Str.ofString "or")) (.str (Str.ofString "drop")) = M.ret (.bl false) := by with_unfolding_all rfl
theorem q_or_pass : cmpD .eq (.str (Str.ofString "or")) (.str (Str.ofString "pass")) = M.ret (.bl false) := by with_unfolding_all rfl
theorem q_or_test : cmpD .eq (.str (Str.ofString "or")) (.str (Str.ofString "test")) = M.ret (.bl false) := by with_unfolding_all rfl
theorem q_or_not : cmpD .eq (.str (Str.ofString "or")) (.str (Str.ofString "not")) = M.ret (.bl false) := by with_unfolding_all rfl
theorem q_or_again : cmpD .eq (.str (Str.ofString "or")) (.str (Str.ofString "again")) = M.ret (.bl false) := by with_unfolding_all rfl
theorem q_or_or : cmpD .eq (.str (Str.ofString "or")) (.str (Str.ofString "or")) = M.ret (.bl true) := by with_unfolding_all rfl
theorem q_or_then : cmpD .eq (.str (Str.ofString "or")) (.str (Str.ofString "then")) = M.ret (.bl false) := by with_unfolding_all rfl
theorem q_or_in : cmpD .isIn (.str (Str.ofString "or")) (.tup [.str (Str.ofString "drop"), .str (Str.ofString "pass"), .str (Str.ofString "test"), .str (Str.ofString "put")]) = M.ret (.bl false) := by with_unfolding_all rfl
theorem q_or_p : idxD (.dct false [.inr (Str.ofString "drop"), .inr (Str.ofString "pass"), .inr (Str.ofString "test"), .inr (Str.ofString "put"), .inr (Str.ofString "halt"), .inr (Str.ofString "or"), .inr (Str.ofString "then"), .inr (Str.ofString "again"), .inr (Str.ofString "not")] [.int 0, .int 0, .int 0, .int 0, .int 0, .int 2, .int 2, .int 1, .int 1]) (.str (Str.ofString "or")) = M.ret (.int 2) := by with_unfolding_all rfl
theorem q_then_halt : cmpD .eq (.str (Str.ofString "then")) (.str (Str.ofString "halt")) = M.ret (.bl false) := by with_unfolding_all rfl
theorem q_then_drop : cmpD .eq (.str (Str.ofString "then")) (.str (Str.ofString "drop")) = M.ret (.bl false) := by with_unfolding_all rfl
theorem q_then_pass : cmpD .eq (.str (Str.ofString "then")) (.str (Str.ofString "pass")) = M.ret (.bl false) := by with_unfolding_all rfl
theorem q_then_test : cmpD .eq (.str (Str.ofString "then")) (.str (Str.ofString "test")) = M.ret (.bl false) := by with_unfolding_all rfl
theorem q_then_not : cmpD .eq (.str (Str.ofString "then")) (.str (Str.ofString "not")) = M.ret (.bl false) := by with_unfolding_all rfl
theorem q_then_again : cmpD .eq (.str (Str.ofString "then")) (.str (Str.ofString "again")) = M.ret (.bl false) := by with_unfolding_all rfl
theorem q_then_or : cmpD .eq (.str (Str.ofString "then")) (.str (Str.ofString "or")) = M.ret (.bl false) := by with_unfolding_all rfl
theorem q_then_then : cmpD .eq (.str (Str.ofString "then")) (.str (Str.ofString "then")) = M.ret (.bl true) := by with_unfolding_all rfl
theorem q_then_in : cmpD .isIn (.str (Str.ofString "then")) (.tup [.str (Str.ofString "drop"), .str (Str.ofString "pass"), .str (Str.ofString "test"), .str (Str.ofString "put")]) = M.ret (.bl false) := by with_unfolding_all rfl
theorem q_then_p : idxD (.dct false [.inr (Str.ofString "drop"), .inr (Str.ofString "pass"), .inr (Str.ofString "test"), .inr (Str.ofString "put"), .inr (Str.ofString "halt"), .inr (Str.ofString "or"), .inr (Str.ofString "then"), .inr (Str.ofString "again"), .inr (Str.ofString "not")] [.int 0, .int 0, .int 0, .int 0, .int 0, .int 2, .int 2, .int 1, .int 1]) (.str (Str.ofString "then")) = M.ret (.int 2) := by with_unfolding_all rfl
theorem q_again_halt : cmpD .eq (.str (Str.ofString "again")) (.str (Str.ofString "halt")) = M.ret (.bl false) := by with_unfolding_all rfl
theorem q_again_drop : cmpD .eq (.str (Str.ofString "again")) (.str (Str.ofString "drop")) = M.ret (.bl false) := by with_unfolding_all rfl
theorem q_again_pass : cmpD .eq (.str (Str.ofString "again")) (.str (Str.ofString "pass")) = M.ret (.bl false) := by with_unfolding_all rfl
theorem q_again_test : cmpD .eq (.str (Str.ofString "again")) (.str (Str.ofString "test")) = M.ret (.bl false) := by with_unfolding_all rfl
theorem q_again_not : cmpD .eq (.str (Str.ofString "again")) (.str (Str.ofString "not")) = M.ret (.bl false) := by with_unfolding_all rfl
theorem q_again_again : cmpD .eq (.str (Str.ofString "again")) (.str (Str.ofString "again")) = M.ret (.bl true) := by with_unfolding_all rfl
theorem q_again_or : cmpD .eq (.str (Str.ofString "again")) (.str (Str.ofString "or")) = M.ret (.bl false) := by with_unfolding_all rfl
theorem q_again_then : cmpD .eq (.str (Str.ofString "again")) (.str (Str.ofString "then")) = M.ret (.bl false) := by with_unfolding_all rfl
theorem q_again_in : cmpD .isIn (.str (Str.ofString "again")) (.tup [.str (Str.ofString "drop"), .str (Str.ofString "pass"), .str (Str.ofString "test"), .str (Str.ofString "put")]) = M.ret (.bl false) := by with_unfolding_all rfl
theorem q_again_p : idxD (.dct false [.inr (Str.ofString "drop"), .inr (Str.ofString "pass"), .inr (Str.ofString "test"), .inr (Str.ofString "put"), .inr (Str.ofString "halt"), .inr (Str.ofString "or"), .inr (Str.ofString "then"), .inr (Str.ofString "again"), .inr (Str.ofString "not")] [.int 0, .int 0, .int 0, .int 0, .int 0, .int 2, .int 2, .int 1, .int 1]) (.str (Str.ofString "again")) = M.ret (.int 1) := by with_unfolding_all rfl
theorem q_not_halt : cmpD .eq (.str (Str.ofString "not")) (.str (Str.ofString "halt")) = M.ret (.bl false) := by with_unfolding_all rfl
theorem q_not_drop : cmpD .eq (.str (Str.ofString "not")) (.str (Str.ofString "drop")) = M.ret (.bl false) := by with_unfolding_all rfl
theorem q_not_pass : cmpD .eq (.str (Str.ofString "not")) (.str (Str.ofString "pass")) = M.ret (.bl false) := by with_unfolding_all rfl
theorem q_not_test : cmpD .eq (.str (Str.ofString "not")) (.str (Str.ofString "test")) = M.ret (.bl false) := by with_unfolding_all rfl
theorem q_not_not : cmpD .eq (.str (Str.ofString "not")) (.str (Str.ofString "not")) = M.ret (.bl true) := by with_unfolding_all rfl
theorem q_not_again : cmpD .eq (.str (Str.ofString "not")) (.str (Str.ofString "again")) = M.ret (.bl false) := by with_unfolding_all rfl
theorem q_not_or : cmpD .eq (.str (Str.ofString "not")) (.str (Str.ofString "or")) = M.ret (.bl false) := by with_unfolding_all rfl
theorem q_not_then : cmpD .eq (.str (Str.ofString "not")) (.str (Str.ofString "then")) = M.ret (.bl false) := by with_unfolding_all rfl
theorem q_not_in : cmpD .isIn (.str (Str.ofString "not")) (.tup [.str (Str.ofString "drop"), .str (Str.ofString "pass"), .str (Str.ofString "test"), .str (Str.ofString "put")]) = M.ret (.bl false) := by with_unfolding_all rfl
theorem q_not_p : idxD (.dct false [.inr (Str.ofString "drop"), .inr (Str.ofString "pass"), .inr (Str.ofString "test"), .inr (Str.ofString "put"), .inr (Str.ofString "halt"), .inr (Str.ofString "or"), .inr (Str.ofString "then"), .inr (Str.ofString "again"), .inr (Str.ofString "not")] [.int 0, .int 0, .int 0, .int 0, .int 0, .int 2, .int 2, .int 1, .int 1]) (.str (Str.ofString "not")) = M.ret (.int 1) := by with_unfolding_all rfl
def fA (n : Int) : D := .lst false [.tup [.str (Str.ofString "a"), .int n]]
def fB (x : String) : D := .lst false [.tup [.str (Str.ofString "a"), .int 2], .tup [.str (Str.ofString x), .int 2]]
inductive Fd : D → List Nat → Prop where
  | a2 : Fd (fA 2) [2]
  | a3 : Fd (fA 3) [3]
  | a4 : Fd (fA 4) [4]
  | bo : Fd (fB "bo") [2, 2]
  | cat : Fd (fB "cat") [2, 2]
def prd : List Nat → Nat
  | [] => 1
  | n :: r => n * prd r
def chkI (n : Int) : Int → List D → Bool
  | _, [] => true
  | l, .int i :: r => decide (l < i) && decide (0 ≤ i) && decide (i < n) && chkI n i r
  | _, _ => false
def chkR (n : Nat) : D → Bool
  | .lst false ds => chkI n (-1) ds
  | _ => false
def chkT (n : Nat) : D → Bool
  | .lst false ds => decide (ds.length = n) && ds.all (chkR n)
  | _ => false
theorem ccount_parcels_a2 (k : Nat) (μ : Sto) : run pp (k + 4) (Str.ofString "count_parcels") [(fA 2)] μ = .ok (.int (prd [2] : Nat)) μ := by with_unfolding_all rfl
theorem c_law_many_a2 (k : Nat) (μ : Sto) : run pp (k + 4) (Str.ofString "_law_many") [(fA 2)] μ = .ok (.int (prd [2] : Nat)) μ := by with_unfolding_all rfl
theorem ts_a2_test_0_0 (k : Nat) (μ : Sto) : ∃ T, run pp (k + 8) (Str.ofString "table_of_sign") [(fA 2), .tup [.str (Str.ofString "test"), .int (0 : Nat), .int (0 : Nat)]] μ = .ok T μ ∧ chkT 2 T.fz = true := ⟨_, by with_unfolding_all rfl, by decide +kernel⟩
theorem ts_a2_test_0_1 (k : Nat) (μ : Sto) : ∃ T, run pp (k + 8) (Str.ofString "table_of_sign") [(fA 2), .tup [.str (Str.ofString "test"), .int (0 : Nat), .int (1 : Nat)]] μ = .ok T μ ∧ chkT 2 T.fz = true := ⟨_, by with_unfolding_all rfl, by decide +kernel⟩
theorem ts_a2_put_0_0 (k : Nat) (μ : Sto) : ∃ T, run pp (k + 8) (Str.ofString "table_of_sign") [(fA 2), .tup [.str (Str.ofString "put"), .int (0 : Nat), .int (0 : Nat)]] μ = .ok T μ ∧ chkT 2 T.fz = true := ⟨_, by with_unfolding_all rfl, by decide +kernel⟩
theorem ts_a2_put_0_1 (k : Nat) (μ : Sto) : ∃ T, run pp (k + 8) (Str.ofString "table_of_sign") [(fA 2), .tup [.str (Str.ofString "put"), .int (0 : Nat), .int (1 : Nat)]] μ = .ok T μ ∧ chkT 2 T.fz = true := ⟨_, by with_unfolding_all rfl, by decide +kernel⟩
theorem ccount_parcels_a3 (k : Nat) (μ : Sto) : run pp (k + 4) (Str.ofString "count_parcels") [(fA 3)] μ = .ok (.int (prd [3] : Nat)) μ := by with_unfolding_all rfl
theorem c_law_many_a3 (k : Nat) (μ : Sto) : run pp (k + 4) (Str.ofString "_law_many") [(fA 3)] μ = .ok (.int (prd [3] : Nat)) μ := by with_unfolding_all rfl
theorem ts_a3_test_0_0 (k : Nat) (μ : Sto) : ∃ T, run pp (k + 8) (Str.ofString "table_of_sign") [(fA 3), .tup [.str (Str.ofString "test"), .int (0 : Nat), .int (0 : Nat)]] μ = .ok T μ ∧ chkT 3 T.fz = true := ⟨_, by with_unfolding_all rfl, by decide +kernel⟩
theorem ts_a3_test_0_1 (k : Nat) (μ : Sto) : ∃ T, run pp (k + 8) (Str.ofString "table_of_sign") [(fA 3), .tup [.str (Str.ofString "test"), .int (0 : Nat), .int (1 : Nat)]] μ = .ok T μ ∧ chkT 3 T.fz = true := ⟨_, by with_unfolding_all rfl, by decide +kernel⟩
theorem ts_a3_test_0_2 (k : Nat) (μ : Sto) : ∃ T, run pp (k + 8) (Str.ofString "table_of_sign") [(fA 3), .tup [.str (Str.ofString "test"), .int (0 : Nat), .int (2 : Nat)]] μ = .ok T μ ∧ chkT 3 T.fz = true := ⟨_, by with_unfolding_all rfl, by decide +kernel⟩
theorem ts_a3_put_0_0 (k : Nat) (μ : Sto) : ∃ T, run pp (k + 8) (Str.ofString "table_of_sign") [(fA 3), .tup [.str (Str.ofString "put"), .int (0 : Nat), .int (0 : Nat)]] μ = .ok T μ ∧ chkT 3 T.fz = true := ⟨_, by with_unfolding_all rfl, by decide +kernel⟩
theorem ts_a3_put_0_1 (k : Nat) (μ : Sto) : ∃ T, run pp (k + 8) (Str.ofString "table_of_sign") [(fA 3), .tup [.str (Str.ofString "put"), .int (0 : Nat), .int (1 : Nat)]] μ = .ok T μ ∧ chkT 3 T.fz = true := ⟨_, by with_unfolding_all rfl, by decide +kernel⟩
theorem ts_a3_put_0_2 (k : Nat) (μ : Sto) : ∃ T, run pp (k + 8) (Str.ofString "table_of_sign") [(fA 3), .tup [.str (Str.ofString "put"), .int (0 : Nat), .int (2 : Nat)]] μ = .ok T μ ∧ chkT 3 T.fz = true := ⟨_, by with_unfolding_all rfl, by decide +kernel⟩
theorem ccount_parcels_a4 (k : Nat) (μ : Sto) : run pp (k + 4) (Str.ofString "count_parcels") [(fA 4)] μ = .ok (.int (prd [4] : Nat)) μ := by with_unfolding_all rfl
theorem c_law_many_a4 (k : Nat) (μ : Sto) : run pp (k + 4) (Str.ofString "_law_many") [(fA 4)] μ = .ok (.int (prd [4] : Nat)) μ := by with_unfolding_all rfl
theorem ts_a4_test_0_0 (k : Nat) (μ : Sto) : ∃ T, run pp (k + 8) (Str.ofString "table_of_sign") [(fA 4), .tup [.str (Str.ofString "test"), .int (0 : Nat), .int (0 : Nat)]] μ = .ok T μ ∧ chkT 4 T.fz = true := ⟨_, by with_unfolding_all rfl, by decide +kernel⟩
theorem ts_a4_test_0_1 (k : Nat) (μ : Sto) : ∃ T, run pp (k + 8) (Str.ofString "table_of_sign") [(fA 4), .tup [.str (Str.ofString "test"), .int (0 : Nat), .int (1 : Nat)]] μ = .ok T μ ∧ chkT 4 T.fz = true := ⟨_, by with_unfolding_all rfl, by decide +kernel⟩
theorem ts_a4_test_0_2 (k : Nat) (μ : Sto) : ∃ T, run pp (k + 8) (Str.ofString "table_of_sign") [(fA 4), .tup [.str (Str.ofString "test"), .int (0 : Nat), .int (2 : Nat)]] μ = .ok T μ ∧ chkT 4 T.fz = true := ⟨_, by with_unfolding_all rfl, by decide +kernel⟩
theorem ts_a4_test_0_3 (k : Nat) (μ : Sto) : ∃ T, run pp (k + 8) (Str.ofString "table_of_sign") [(fA 4), .tup [.str (Str.ofString "test"), .int (0 : Nat), .int (3 : Nat)]] μ = .ok T μ ∧ chkT 4 T.fz = true := ⟨_, by with_unfolding_all rfl, by decide +kernel⟩
theorem ts_a4_put_0_0 (k : Nat) (μ : Sto) : ∃ T, run pp (k + 8) (Str.ofString "table_of_sign") [(fA 4), .tup [.str (Str.ofString "put"), .int (0 : Nat), .int (0 : Nat)]] μ = .ok T μ ∧ chkT 4 T.fz = true := ⟨_, by with_unfolding_all rfl, by decide +kernel⟩
theorem ts_a4_put_0_1 (k : Nat) (μ : Sto) : ∃ T, run pp (k + 8) (Str.ofString "table_of_sign") [(fA 4), .tup [.str (Str.ofString "put"), .int (0 : Nat), .int (1 : Nat)]] μ = .ok T μ ∧ chkT 4 T.fz = true := ⟨_, by with_unfolding_all rfl, by decide +kernel⟩
theorem ts_a4_put_0_2 (k : Nat) (μ : Sto) : ∃ T, run pp (k + 8) (Str.ofString "table_of_sign") [(fA 4), .tup [.str (Str.ofString "put"), .int (0 : Nat), .int (2 : Nat)]] μ = .ok T μ ∧ chkT 4 T.fz = true := ⟨_, by with_unfolding_all rfl, by decide +kernel⟩
theorem ts_a4_put_0_3 (k : Nat) (μ : Sto) : ∃ T, run pp (k + 8) (Str.ofString "table_of_sign") [(fA 4), .tup [.str (Str.ofString "put"), .int (0 : Nat), .int (3 : Nat)]] μ = .ok T μ ∧ chkT 4 T.fz = true := ⟨_, by with_unfolding_all rfl, by decide +kernel⟩
theorem ccount_parcels_bo (k : Nat) (μ : Sto) : run pp (k + 4) (Str.ofString "count_parcels") [(fB "bo")] μ = .ok (.int (prd [2, 2] : Nat)) μ := by with_unfolding_all rfl
theorem c_law_many_bo (k : Nat) (μ : Sto) : run pp (k + 4) (Str.ofString "_law_many") [(fB "bo")] μ = .ok (.int (prd [2, 2] : Nat)) μ := by with_unfolding_all rfl
theorem ts_bo_test_0_0 (k : Nat) (μ : Sto) : ∃ T, run pp (k + 8) (Str.ofString "table_of_sign") [(fB "bo"), .tup [.str (Str.ofString "test"), .int (0 : Nat), .int (0 : Nat)]] μ = .ok T μ ∧ chkT 4 T.fz = true := ⟨_, by with_unfolding_all rfl, by decide +kernel⟩
theorem ts_bo_test_0_1 (k : Nat) (μ : Sto) : ∃ T, run pp (k + 8) (Str.ofString "table_of_sign") [(fB "bo"), .tup [.str (Str.ofString "test"), .int (0 : Nat), .int (1 : Nat)]] μ = .ok T μ ∧ chkT 4 T.fz = true := ⟨_, by with_unfolding_all rfl, by decide +kernel⟩
theorem ts_bo_test_1_0 (k : Nat) (μ : Sto) : ∃ T, run pp (k + 8) (Str.ofString "table_of_sign") [(fB "bo"), .tup [.str (Str.ofString "test"), .int (1 : Nat), .int (0 : Nat)]] μ = .ok T μ ∧ chkT 4 T.fz = true := ⟨_, by with_unfolding_all rfl, by decide +kernel⟩
theorem ts_bo_test_1_1 (k : Nat) (μ : Sto) : ∃ T, run pp (k + 8) (Str.ofString "table_of_sign") [(fB "bo"), .tup [.str (Str.ofString "test"), .int (1 : Nat), .int (1 : Nat)]] μ = .ok T μ ∧ chkT 4 T.fz = true := ⟨_, by with_unfolding_all rfl, by decide +kernel⟩
theorem ts_bo_put_0_0 (k : Nat) (μ : Sto) : ∃ T, run pp (k + 8) (Str.ofString "table_of_sign") [(fB "bo"), .tup [.str (Str.ofString "put"), .int (0 : Nat), .int (0 : Nat)]] μ = .ok T μ ∧ chkT 4 T.fz = true := ⟨_, by with_unfolding_all rfl, by decide +kernel⟩
theorem ts_bo_put_0_1 (k : Nat) (μ : Sto) : ∃ T, run pp (k + 8) (Str.ofString "table_of_sign") [(fB "bo"), .tup [.str (Str.ofString "put"), .int (0 : Nat), .int (1 : Nat)]] μ = .ok T μ ∧ chkT 4 T.fz = true := ⟨_, by with_unfolding_all rfl, by decide +kernel⟩
theorem ts_bo_put_1_0 (k : Nat) (μ : Sto) : ∃ T, run pp (k + 8) (Str.ofString "table_of_sign") [(fB "bo"), .tup [.str (Str.ofString "put"), .int (1 : Nat), .int (0 : Nat)]] μ = .ok T μ ∧ chkT 4 T.fz = true := ⟨_, by with_unfolding_all rfl, by decide +kernel⟩
theorem ts_bo_put_1_1 (k : Nat) (μ : Sto) : ∃ T, run pp (k + 8) (Str.ofString "table_of_sign") [(fB "bo"), .tup [.str (Str.ofString "put"), .int (1 : Nat), .int (1 : Nat)]] μ = .ok T μ ∧ chkT 4 T.fz = true := ⟨_, by with_unfolding_all rfl, by decide +kernel⟩
theorem ccount_parcels_cat (k : Nat) (μ : Sto) : run pp (k + 4) (Str.ofString "count_parcels") [(fB "cat")] μ = .ok (.int (prd [2, 2] : Nat)) μ := by with_unfolding_all rfl
theorem c_law_many_cat (k : Nat) (μ : Sto) : run pp (k + 4) (Str.ofString "_law_many") [(fB "cat")] μ = .ok (.int (prd [2, 2] : Nat)) μ := by with_unfolding_all rfl
theorem ts_cat_test_0_0 (k : Nat) (μ : Sto) : ∃ T, run pp (k + 8) (Str.ofString "table_of_sign") [(fB "cat"), .tup [.str (Str.ofString "test"), .int (0 : Nat), .int (0 : Nat)]] μ = .ok T μ ∧ chkT 4 T.fz = true := ⟨_, by with_unfolding_all rfl, by decide +kernel⟩
theorem ts_cat_test_0_1 (k : Nat) (μ : Sto) : ∃ T, run pp (k + 8) (Str.ofString "table_of_sign") [(fB "cat"), .tup [.str (Str.ofString "test"), .int (0 : Nat), .int (1 : Nat)]] μ = .ok T μ ∧ chkT 4 T.fz = true := ⟨_, by with_unfolding_all rfl, by decide +kernel⟩
theorem ts_cat_test_1_0 (k : Nat) (μ : Sto) : ∃ T, run pp (k + 8) (Str.ofString "table_of_sign") [(fB "cat"), .tup [.str (Str.ofString "test"), .int (1 : Nat), .int (0 : Nat)]] μ = .ok T μ ∧ chkT 4 T.fz = true := ⟨_, by with_unfolding_all rfl, by decide +kernel⟩
theorem ts_cat_test_1_1 (k : Nat) (μ : Sto) : ∃ T, run pp (k + 8) (Str.ofString "table_of_sign") [(fB "cat"), .tup [.str (Str.ofString "test"), .int (1 : Nat), .int (1 : Nat)]] μ = .ok T μ ∧ chkT 4 T.fz = true := ⟨_, by with_unfolding_all rfl, by decide +kernel⟩
theorem ts_cat_put_0_0 (k : Nat) (μ : Sto) : ∃ T, run pp (k + 8) (Str.ofString "table_of_sign") [(fB "cat"), .tup [.str (Str.ofString "put"), .int (0 : Nat), .int (0 : Nat)]] μ = .ok T μ ∧ chkT 4 T.fz = true := ⟨_, by with_unfolding_all rfl, by decide +kernel⟩
theorem ts_cat_put_0_1 (k : Nat) (μ : Sto) : ∃ T, run pp (k + 8) (Str.ofString "table_of_sign") [(fB "cat"), .tup [.str (Str.ofString "put"), .int (0 : Nat), .int (1 : Nat)]] μ = .ok T μ ∧ chkT 4 T.fz = true := ⟨_, by with_unfolding_all rfl, by decide +kernel⟩
theorem ts_cat_put_1_0 (k : Nat) (μ : Sto) : ∃ T, run pp (k + 8) (Str.ofString "table_of_sign") [(fB "cat"), .tup [.str (Str.ofString "put"), .int (1 : Nat), .int (0 : Nat)]] μ = .ok T μ ∧ chkT 4 T.fz = true := ⟨_, by with_unfolding_all rfl, by decide +kernel⟩
theorem ts_cat_put_1_1 (k : Nat) (μ : Sto) : ∃ T, run pp (k + 8) (Str.ofString "table_of_sign") [(fB "cat"), .tup [.str (Str.ofString "put"), .int (1 : Nat), .int (1 : Nat)]] μ = .ok T μ ∧ chkT 4 T.fz = true := ⟨_, by with_unfolding_all rfl, by decide +kernel⟩
theorem ccount_parcels {F : D} {ws : List Nat} (h : Fd F ws) (k : Nat) (μ : Sto) : run pp (k + 4) (Str.ofString "count_parcels") [F] μ = .ok (.int (prd ws : Nat)) μ := by
  cases h
  · exact ccount_parcels_a2 k μ
  · exact ccount_parcels_a3 k μ
  · exact ccount_parcels_a4 k μ
  · exact ccount_parcels_bo k μ
  · exact ccount_parcels_cat k μ
theorem c_law_many {F : D} {ws : List Nat} (h : Fd F ws) (k : Nat) (μ : Sto) : run pp (k + 4) (Str.ofString "_law_many") [F] μ = .ok (.int (prd ws : Nat)) μ := by
  cases h
  · exact c_law_many_a2 k μ
  · exact c_law_many_a3 k μ
  · exact c_law_many_a4 k μ
  · exact c_law_many_bo k μ
  · exact c_law_many_cat k μ
theorem ts_test {F : D} {ws : List Nat} (h : Fd F ws) (f w : Nat) (hf : f < ws.length) (hw : w < ws[f]) (k : Nat) (μ : Sto) : ∃ T, run pp (k + 8) (Str.ofString "table_of_sign") [F, .tup [.str (Str.ofString "test"), .int f, .int w]] μ = .ok T μ ∧ chkT (prd ws) T.fz = true := by
  cases h
  · match f, hf, w, hw with
    | 0, _, 0, _ => exact ts_a2_test_0_0 k μ
    | 0, _, 1, _ => exact ts_a2_test_0_1 k μ
    | 0, _, w + 2, h => exact absurd h (by simp)
    | f + 1, h, _, _ => exact absurd h (by simp)
  · match f, hf, w, hw with
    | 0, _, 0, _ => exact ts_a3_test_0_0 k μ
    | 0, _, 1, _ => exact ts_a3_test_0_1 k μ
    | 0, _, 2, _ => exact ts_a3_test_0_2 k μ
    | 0, _, w + 3, h => exact absurd h (by simp)
    | f + 1, h, _, _ => exact absurd h (by simp)
  · match f, hf, w, hw with
    | 0, _, 0, _ => exact ts_a4_test_0_0 k μ
    | 0, _, 1, _ => exact ts_a4_test_0_1 k μ
    | 0, _, 2, _ => exact ts_a4_test_0_2 k μ
    | 0, _, 3, _ => exact ts_a4_test_0_3 k μ
    | 0, _, w + 4, h => exact absurd h (by simp)
    | f + 1, h, _, _ => exact absurd h (by simp)
  · match f, hf, w, hw with
    | 0, _, 0, _ => exact ts_bo_test_0_0 k μ
    | 0, _, 1, _ => exact ts_bo_test_0_1 k μ
    | 0, _, w + 2, h => exact absurd h (by simp)
    | 1, _, 0, _ => exact ts_bo_test_1_0 k μ
    | 1, _, 1, _ => exact ts_bo_test_1_1 k μ
    | 1, _, w + 2, h => exact absurd h (by simp)
    | f + 2, h, _, _ => exact absurd h (by simp)
  · match f, hf, w, hw with
    | 0, _, 0, _ => exact ts_cat_test_0_0 k μ
    | 0, _, 1, _ => exact ts_cat_test_0_1 k μ
    | 0, _, w + 2, h => exact absurd h (by simp)
    | 1, _, 0, _ => exact ts_cat_test_1_0 k μ
    | 1, _, 1, _ => exact ts_cat_test_1_1 k μ
    | 1, _, w + 2, h => exact absurd h (by simp)
    | f + 2, h, _, _ => exact absurd h (by simp)
theorem ts_put {F : D} {ws : List Nat} (h : Fd F ws) (f w : Nat) (hf : f < ws.length) (hw : w < ws[f]) (k : Nat) (μ : Sto) : ∃ T, run pp (k + 8) (Str.ofString "table_of_sign") [F, .tup [.str (Str.ofString "put"), .int f, .int w]] μ = .ok T μ ∧ chkT (prd ws) T.fz = true := by
  cases h
  · match f, hf, w, hw with
    | 0, _, 0, _ => exact ts_a2_put_0_0 k μ
    | 0, _, 1, _ => exact ts_a2_put_0_1 k μ
    | 0, _, w + 2, h => exact absurd h (by simp)
    | f + 1, h, _, _ => exact absurd h (by simp)
  · match f, hf, w, hw with
    | 0, _, 0, _ => exact ts_a3_put_0_0 k μ
    | 0, _, 1, _ => exact ts_a3_put_0_1 k μ
    | 0, _, 2, _ => exact ts_a3_put_0_2 k μ
    | 0, _, w + 3, h => exact absurd h (by simp)
    | f + 1, h, _, _ => exact absurd h (by simp)
  · match f, hf, w, hw with
    | 0, _, 0, _ => exact ts_a4_put_0_0 k μ
    | 0, _, 1, _ => exact ts_a4_put_0_1 k μ
    | 0, _, 2, _ => exact ts_a4_put_0_2 k μ
    | 0, _, 3, _ => exact ts_a4_put_0_3 k μ
    | 0, _, w + 4, h => exact absurd h (by simp)
    | f + 1, h, _, _ => exact absurd h (by simp)
  · match f, hf, w, hw with
    | 0, _, 0, _ => exact ts_bo_put_0_0 k μ
    | 0, _, 1, _ => exact ts_bo_put_0_1 k μ
    | 0, _, w + 2, h => exact absurd h (by simp)
    | 1, _, 0, _ => exact ts_bo_put_1_0 k μ
    | 1, _, 1, _ => exact ts_bo_put_1_1 k μ
    | 1, _, w + 2, h => exact absurd h (by simp)
    | f + 2, h, _, _ => exact absurd h (by simp)
  · match f, hf, w, hw with
    | 0, _, 0, _ => exact ts_cat_put_0_0 k μ
    | 0, _, 1, _ => exact ts_cat_put_0_1 k μ
    | 0, _, w + 2, h => exact absurd h (by simp)
    | 1, _, 0, _ => exact ts_cat_put_1_0 k μ
    | 1, _, 1, _ => exact ts_cat_put_1_1 k μ
    | 1, _, w + 2, h => exact absurd h (by simp)
    | f + 2, h, _, _ => exact absurd h (by simp)
/-! W7 -/
theorem chkI_up {n : Nat} : ∀ (ds : List D) (l : Int), chkI n l ds = true → ∃ r : List Int, ds = r.map .int ∧ r.Pairwise (· < ·) ∧ ∀ x ∈ r, l < x ∧ 0 ≤ x ∧ x < n
  | [], l, _ => ⟨[], rfl, by simp, by simp⟩
  | .int i :: ds, l, h => by
    simp only [chkI, Bool.and_eq_true, decide_eq_true_eq] at h
    obtain ⟨r, rfl, h1, h2⟩ := chkI_up ds i h.2
    refine ⟨i :: r, rfl, List.pairwise_cons.2 ⟨fun y hy => (h2 y hy).1, h1⟩, ?_⟩
    intro x hx
    rcases List.mem_cons.1 hx with rfl | hx
    · exact ⟨h.1.1.1, h.1.1.2, h.1.2⟩
    · have := h2 x hx; exact ⟨by omega, this.2⟩
  | .non :: _, _, h => by simp [chkI] at h
  | .bl _ :: _, _, h => by simp [chkI] at h
  | .str _ :: _, _, h => by simp [chkI] at h
  | .tup _ :: _, _, h => by simp [chkI] at h
  | .lst _ _ :: _, _, h => by simp [chkI] at h
  | .dct _ _ _ :: _, _, h => by simp [chkI] at h
  | .ref _ :: _, _, h => by simp [chkI] at h
  | .exn _ _ :: _, _, h => by simp [chkI] at h
theorem chkT_tab {n : Nat} {d : D} (h : chkT n d = true) : Tab n d := by
  cases d with
  | lst b ds =>
    cases b with
    | true => simp [chkT] at h
    | false =>
      simp only [chkT, Bool.and_eq_true, decide_eq_true_eq, List.all_eq_true] at h
      refine ⟨ds, rfl, h.1, ?_⟩
      intro x hx
      have hx := h.2 x hx
      cases x with
      | lst b ds =>
        cases b with
        | true => simp [chkR] at hx
        | false =>
          obtain ⟨r, rfl, h1, h2⟩ := chkI_up ds (-1) hx
          exact ⟨r, rfl, h1, fun x hx => (h2 x hx).2⟩
      | _ => simp [chkR] at hx
  | _ => simp [chkT] at h
inductive Po where
  | drop | pass | halt | test (f w : Nat) | put (f w : Nat)
  | or (a b : Po) | thn (a b : Po) | again (a : Po) | not (a : Po)
namespace Po
def d : Po → D
  | drop => .tup [.str (Str.ofString "drop")]
  | pass => .tup [.str (Str.ofString "pass")]
  | halt => .tup [.str (Str.ofString "halt")]
  | test f w => .tup [.str (Str.ofString "test"), .int f, .int w]
  | put f w => .tup [.str (Str.ofString "put"), .int f, .int w]
  | or a b => .tup [.str (Str.ofString "or"), a.d, b.d]
  | thn a b => .tup [.str (Str.ofString "then"), a.d, b.d]
  | again a => .tup [.str (Str.ofString "again"), a.d]
  | not a => .tup [.str (Str.ofString "not"), a.d]
def sz : Po → Nat
  | or a b => a.sz + b.sz + 1
  | thn a b => a.sz + b.sz + 1
  | again a => a.sz + 1
  | not a => a.sz + 1
  | _ => 1
def hs : Po → Nat
  | halt => 1
  | or a b => a.hs + b.hs
  | thn a b => a.hs + b.hs
  | again a => a.hs
  | not a => a.hs
  | _ => 0
def parts : Po → List Po
  | or a b => [a, b]
  | thn a b => [a, b]
  | again a => [a]
  | not a => [a]
  | _ => []
def Ok (ws : List Nat) : Po → Prop
  | test f w => ∃ h : f < ws.length, w < ws[f]
  | put f w => ∃ h : f < ws.length, w < ws[f]
  | or a b => a.Ok ws ∧ b.Ok ws
  | thn a b => a.Ok ws ∧ b.Ok ws
  | again a => a.Ok ws
  | not a => a.Ok ws
  | _ => True
theorem fz : ∀ p : Po, p.d.nb = true ∧ p.d.fz = p.d
  | drop => by simp [d, D.nb, D.nbL, D.fz, D.fzL]
  | pass => by simp [d, D.nb, D.nbL, D.fz, D.fzL]
  | halt => by simp [d, D.nb, D.nbL, D.fz, D.fzL]
  | test f w => by simp [d, D.nb, D.nbL, D.fz, D.fzL]
  | put f w => by simp [d, D.nb, D.nbL, D.fz, D.fzL]
  | or a b => by simp [d, D.nb, D.nbL, D.fz, D.fzL, a.fz, b.fz]
  | thn a b => by simp [d, D.nb, D.nbL, D.fz, D.fzL, a.fz, b.fz]
  | again a => by simp [d, D.nb, D.nbL, D.fz, D.fzL, a.fz]
  | not a => by simp [d, D.nb, D.nbL, D.fz, D.fzL, a.fz]
theorem hs_le : ∀ p : Po, p.hs ≤ p.sz
  | drop => by simp [hs, sz]
  | pass => by simp [hs, sz]
  | halt => by simp [hs, sz]
  | test f w => by simp [hs, sz]
  | put f w => by simp [hs, sz]
  | or a b => by have := a.hs_le; have := b.hs_le; simp only [hs, sz]; omega
  | thn a b => by have := a.hs_le; have := b.hs_le; simp only [hs, sz]; omega
  | again a => by have := a.hs_le; simp only [hs, sz]; omega
  | not a => by have := a.hs_le; simp only [hs, sz]; omega
theorem hs_parts (p : Po) (h : p ≠ halt) : p.hs = (p.parts.map hs).sum := by
  cases p <;> simp [hs, parts] at h ⊢
theorem sz_parts (p : Po) : ∀ q ∈ p.parts, q.sz < p.sz := by
  cases p <;> simp [parts, sz] <;> omega
end Po
theorem dBools_map : ∀ bs : List Bool, dBools (bs.map .bl) = some bs
  | [] => rfl
  | b :: bs => by simp [dBools, dBools_map bs]
section
variable {μ : Sto} {X : Str → List D → Sto → Prop} {n s t : Nat}
theorem w_any {Q : D → Sto → Prop} {b : Bool} {bs : List Bool} : Wp (bltD .any (.lst b (bs.map .bl))) μ Q X = Q (.bl (bs.any id)) μ := by
  simp only [bltD, dBools_map, Option.map, wp_some]
theorem w_all {Q : D → Sto → Prop} {b : Bool} {bs : List Bool} : Wp (bltD .all (.lst b (bs.map .bl))) μ Q X = Q (.bl (bs.all id)) μ := by
  simp only [bltD, dBools_map, Option.map, wp_some]
theorem w_sum {Q : D → Sto → Prop} {b : Bool} {r : List Int} : Wp (bltD .sum (.lst b (r.map .int))) μ Q X = Q (.int r.sum) μ := by
  simp only [bltD, dInts_map, Option.map, wp_some]
theorem s_parts {k : Nat} (p : Po) (hk : 1 ≤ k) : Wp (run pp k (Str.ofString "parts_ahead") [p.d]) μ (fun d μ' => μ' = μ ∧ d = .lst true (p.parts.map Po.d)) X := by
  obtain ⟨k, rfl⟩ : ∃ j, k = j + 1 := ⟨k - 1, by omega⟩
  rw [e_parts_ahead]
  cases p with
  | drop => simp_arith [q_drop_halt, q_drop_drop, q_drop_pass, q_drop_test, q_drop_not, q_drop_again, q_drop_or, q_drop_then, q_drop_in, q_drop_p, q_pass_halt, q_pass_drop, q_pass_pass, q_pass_test, q_pass_not, q_pass_again, q_pass_or, q_pass_then, q_pass_in, q_pass_p, q_test_halt, q_test_drop, q_test_pass, q_test_test, q_test_not, q_test_again, q_test_or, q_test_then, q_test_in, q_test_p, q_put_halt, q_put_drop, q_put_pass, q_put_test, q_put_not, q_put_again, q_put_or, q_put_then, q_put_in, q_put_p, q_halt_halt, q_halt_drop, q_halt_pass, q_halt_test, q_halt_not, q_halt_again, q_halt_or, q_halt_then, q_halt_in, q_halt_p, q_or_halt, q_or_drop, q_or_pass, q_or_test, q_or_not, q_or_again, q_or_or, q_or_then, q_or_in, q_or_p, q_then_halt, q_then_drop, q_then_pass, q_then_test, q_then_not, q_then_again, q_then_or, q_then_then, q_then_in, q_then_p, q_again_halt, q_again_drop, q_again_pass, q_again_test, q_again_not, q_again_again, q_again_or, q_again_then, q_again_in, q_again_p, q_not_halt, q_not_drop, q_not_pass, q_not_test, q_not_not, q_not_again, q_not_or, q_not_then, q_not_in, q_not_p, gl_DROP, gl_PASS, gl_TEST, gl_PUT, gl_HALT, gl_OR, gl_THEN, gl_AGAIN, gl_NOT, gl_PARTS, gl_MOST_STATES, atI_0, atI_1, atI_2, P50.f_parts_ahead, Po.d, w_oS]; rfl
  | pass => simp_arith [q_drop_halt, q_drop_drop, q_drop_pass, q_drop_test, q_drop_not, q_drop_again, q_drop_or, q_drop_then, q_drop_in, q_drop_p, q_pass_halt, q_pass_drop, q_pass_pass, q_pass_test, q_pass_not, q_pass_again, q_pass_or, q_pass_then, q_pass_in, q_pass_p, q_test_halt, q_test_drop, q_test_pass, q_test_test, q_test_not, q_test_again, q_test_or, q_test_then, q_test_in, q_test_p, q_put_halt, q_put_drop, q_put_pass, q_put_test, q_put_not, q_put_again, q_put_or, q_put_then, q_put_in, q_put_p, q_halt_halt, q_halt_drop, q_halt_pass, q_halt_test, q_halt_not, q_halt_again, q_halt_or, q_halt_then, q_halt_in, q_halt_p, q_or_halt, q_or_drop, q_or_pass, q_or_test, q_or_not, q_or_again, q_or_or, q_or_then, q_or_in, q_or_p, q_then_halt, q_then_drop, q_then_pass, q_then_test, q_then_not, q_then_again, q_then_or, q_then_then, q_then_in, q_then_p, q_again_halt, q_again_drop, q_again_pass, q_again_test, q_again_not, q_again_again, q_again_or, q_again_then, q_again_in, q_again_p, q_not_halt, q_not_drop, q_not_pass, q_not_test, q_not_not, q_not_again, q_not_or, q_not_then, q_not_in, q_not_p, gl_DROP, gl_PASS, gl_TEST, gl_PUT, gl_HALT, gl_OR, gl_THEN, gl_AGAIN, gl_NOT, gl_PARTS, gl_MOST_STATES, atI_0, atI_1, atI_2, P50.f_parts_ahead, Po.d, w_oS]; rfl
  | halt => simp_arith [q_drop_halt, q_drop_drop, q_drop_pass, q_drop_test, q_drop_not, q_drop_again, q_drop_or, q_drop_then, q_drop_in, q_drop_p, q_pass_halt, q_pass_drop, q_pass_pass, q_pass_test, q_pass_not, q_pass_again, q_pass_or, q_pass_then, q_pass_in, q_pass_p, q_test_halt, q_test_drop, q_test_pass, q_test_test, q_test_not, q_test_again, q_test_or, q_test_then, q_test_in, q_test_p, q_put_halt, q_put_drop, q_put_pass, q_put_test, q_put_not, q_put_again, q_put_or, q_put_then, q_put_in, q_put_p, q_halt_halt, q_halt_drop, q_halt_pass, q_halt_test, q_halt_not, q_halt_again, q_halt_or, q_halt_then, q_halt_in, q_halt_p, q_or_halt, q_or_drop, q_or_pass, q_or_test, q_or_not, q_or_again, q_or_or, q_or_then, q_or_in, q_or_p, q_then_halt, q_then_drop, q_then_pass, q_then_test, q_then_not, q_then_again, q_then_or, q_then_then, q_then_in, q_then_p, q_again_halt, q_again_drop, q_again_pass, q_again_test, q_again_not, q_again_again, q_again_or, q_again_then, q_again_in, q_again_p, q_not_halt, q_not_drop, q_not_pass, q_not_test, q_not_not, q_not_again, q_not_or, q_not_then, q_not_in, q_not_p, gl_DROP, gl_PASS, gl_TEST, gl_PUT, gl_HALT, gl_OR, gl_THEN, gl_AGAIN, gl_NOT, gl_PARTS, gl_MOST_STATES, atI_0, atI_1, atI_2, P50.f_parts_ahead, Po.d, w_oS]; rfl
  | test f w => simp_arith [q_drop_halt, q_drop_drop, q_drop_pass, q_drop_test, q_drop_not, q_drop_again, q_drop_or, q_drop_then, q_drop_in, q_drop_p, q_pass_halt, q_pass_drop, q_pass_pass, q_pass_test, q_pass_not, q_pass_again, q_pass_or, q_pass_then, q_pass_in, q_pass_p, q_test_halt, q_test_drop, q_test_pass, q_test_test, q_test_not, q_test_again, q_test_or, q_test_then, q_test_in, q_test_p, q_put_halt, q_put_drop, q_put_pass, q_put_test, q_put_not, q_put_again, q_put_or, q_put_then, q_put_in, q_put_p, q_halt_halt, q_halt_drop, q_halt_pass, q_halt_test, q_halt_not, q_halt_again, q_halt_or, q_halt_then, q_halt_in, q_halt_p, q_or_halt, q_or_drop, q_or_pass, q_or_test, q_or_not, q_or_again, q_or_or, q_or_then, q_or_in, q_or_p, q_then_halt, q_then_drop, q_then_pass, q_then_test, q_then_not, q_then_again, q_then_or, q_then_then, q_then_in, q_then_p, q_again_halt, q_again_drop, q_again_pass, q_again_test, q_again_not, q_again_again, q_again_or, q_again_then, q_again_in, q_again_p, q_not_halt, q_not_drop, q_not_pass, q_not_test, q_not_not, q_not_again, q_not_or, q_not_then, q_not_in, q_not_p, gl_DROP, gl_PASS, gl_TEST, gl_PUT, gl_HALT, gl_OR, gl_THEN, gl_AGAIN, gl_NOT, gl_PARTS, gl_MOST_STATES, atI_0, atI_1, atI_2, P50.f_parts_ahead, Po.d, w_oS]; rfl
  | put f w => simp_arith [q_drop_halt, q_drop_drop, q_drop_pass, q_drop_test, q_drop_not, q_drop_again, q_drop_or, q_drop_then, q_drop_in, q_drop_p, q_pass_halt, q_pass_drop, q_pass_pass, q_pass_test, q_pass_not, q_pass_again, q_pass_or, q_pass_then, q_pass_in, q_pass_p, q_test_halt, q_test_drop, q_test_pass, q_test_test, q_test_not, q_test_again, q_test_or, q_test_then, q_test_in, q_test_p, q_put_halt, q_put_drop, q_put_pass, q_put_test, q_put_not, q_put_again, q_put_or, q_put_then, q_put_in, q_put_p, q_halt_halt, q_halt_drop, q_halt_pass, q_halt_test, q_halt_not, q_halt_again, q_halt_or, q_halt_then, q_halt_in, q_halt_p, q_or_halt, q_or_drop, q_or_pass, q_or_test, q_or_not, q_or_again, q_or_or, q_or_then, q_or_in, q_or_p, q_then_halt, q_then_drop, q_then_pass, q_then_test, q_then_not, q_then_again, q_then_or, q_then_then, q_then_in, q_then_p, q_again_halt, q_again_drop, q_again_pass, q_again_test, q_again_not, q_again_again, q_again_or, q_again_then, q_again_in, q_again_p, q_not_halt, q_not_drop, q_not_pass, q_not_test, q_not_not, q_not_again, q_not_or, q_not_then, q_not_in, q_not_p, gl_DROP, gl_PASS, gl_TEST, gl_PUT, gl_HALT, gl_OR, gl_THEN, gl_AGAIN, gl_NOT, gl_PARTS, gl_MOST_STATES, atI_0, atI_1, atI_2, P50.f_parts_ahead, Po.d, w_oS]; rfl
  | or a b => simp_arith [q_drop_halt, q_drop_drop, q_drop_pass, q_drop_test, q_drop_not, q_drop_again, q_drop_or, q_drop_then, q_drop_in, q_drop_p, q_pass_halt, q_pass_drop, q_pass_pass, q_pass_test, q_pass_not, q_pass_again, q_pass_or, q_pass_then, q_pass_in, q_pass_p, q_test_halt, q_test_drop, q_test_pass, q_test_test, q_test_not, q_test_again, q_test_or, q_test_then, q_test_in, q_test_p, q_put_halt, q_put_drop, q_put_pass, q_put_test, q_put_not, q_put_again, q_put_or, q_put_then, q_put_in, q_put_p, q_halt_halt, q_halt_drop, q_halt_pass, q_halt_test, q_halt_not, q_halt_again, q_halt_or, q_halt_then, q_halt_in, q_halt_p, q_or_halt, q_or_drop, q_or_pass, q_or_test, q_or_not, q_or_again, q_or_or, q_or_then, q_or_in, q_or_p, q_then_halt, q_then_drop, q_then_pass, q_then_test, q_then_not, q_then_again, q_then_or, q_then_then, q_then_in, q_then_p, q_again_halt, q_again_drop, q_again_pass, q_again_test, q_again_not, q_again_again, q_again_or, q_again_then, q_again_in, q_again_p, q_not_halt, q_not_drop, q_not_pass, q_not_test, q_not_not, q_not_again, q_not_or, q_not_then, q_not_in, q_not_p, gl_DROP, gl_PASS, gl_TEST, gl_PUT, gl_HALT, gl_OR, gl_THEN, gl_AGAIN, gl_NOT, gl_PARTS, gl_MOST_STATES, atI_0, atI_1, atI_2, P50.f_parts_ahead, Po.d, w_oS, a.fz.1, a.fz.2, b.fz.1, b.fz.2]; show D.lst true (D.fzL [a.d, b.d]) = _; simp [D.fzL, a.fz.2, b.fz.2, Po.parts]
  | thn a b => simp_arith [q_drop_halt, q_drop_drop, q_drop_pass, q_drop_test, q_drop_not, q_drop_again, q_drop_or, q_drop_then, q_drop_in, q_drop_p, q_pass_halt, q_pass_drop, q_pass_pass, q_pass_test, q_pass_not, q_pass_again, q_pass_or, q_pass_then, q_pass_in, q_pass_p, q_test_halt, q_test_drop, q_test_pass, q_test_test, q_test_not, q_test_again, q_test_or, q_test_then, q_test_in, q_test_p, q_put_halt, q_put_drop, q_put_pass, q_put_test, q_put_not, q_put_again, q_put_or, q_put_then, q_put_in, q_put_p, q_halt_halt, q_halt_drop, q_halt_pass, q_halt_test, q_halt_not, q_halt_again, q_halt_or, q_halt_then, q_halt_in, q_halt_p, q_or_halt, q_or_drop, q_or_pass, q_or_test, q_or_not, q_or_again, q_or_or, q_or_then, q_or_in, q_or_p, q_then_halt, q_then_drop, q_then_pass, q_then_test, q_then_not, q_then_again, q_then_or, q_then_then, q_then_in, q_then_p, q_again_halt, q_again_drop, q_again_pass, q_again_test, q_again_not, q_again_again, q_again_or, q_again_then, q_again_in, q_again_p, q_not_halt, q_not_drop, q_not_pass, q_not_test, q_not_not, q_not_again, q_not_or, q_not_then, q_not_in, q_not_p, gl_DROP, gl_PASS, gl_TEST, gl_PUT, gl_HALT, gl_OR, gl_THEN, gl_AGAIN, gl_NOT, gl_PARTS, gl_MOST_STATES, atI_0, atI_1, atI_2, P50.f_parts_ahead, Po.d, w_oS, a.fz.1, a.fz.2, b.fz.1, b.fz.2]; show D.lst true (D.fzL [a.d, b.d]) = _; simp [D.fzL, a.fz.2, b.fz.2, Po.parts]
  | again a => simp_arith [q_drop_halt, q_drop_drop, q_drop_pass, q_drop_test, q_drop_not, q_drop_again, q_drop_or, q_drop_then, q_drop_in, q_drop_p, q_pass_halt, q_pass_drop, q_pass_pass, q_pass_test, q_pass_not, q_pass_again, q_pass_or, q_pass_then, q_pass_in, q_pass_p, q_test_halt, q_test_drop, q_test_pass, q_test_test, q_test_not, q_test_again, q_test_or, q_test_then, q_test_in, q_test_p, q_put_halt, q_put_drop, q_put_pass, q_put_test, q_put_not, q_put_again, q_put_or, q_put_then, q_put_in, q_put_p, q_halt_halt, q_halt_drop, q_halt_pass, q_halt_test, q_halt_not, q_halt_again, q_halt_or, q_halt_then, q_halt_in, q_halt_p, q_or_halt, q_or_drop, q_or_pass, q_or_test, q_or_not, q_or_again, q_or_or, q_or_then, q_or_in, q_or_p, q_then_halt, q_then_drop, q_then_pass, q_then_test, q_then_not, q_then_again, q_then_or, q_then_then, q_then_in, q_then_p, q_again_halt, q_again_drop, q_again_pass, q_again_test, q_again_not, q_again_again, q_again_or, q_again_then, q_again_in, q_again_p, q_not_halt, q_not_drop, q_not_pass, q_not_test, q_not_not, q_not_again, q_not_or, q_not_then, q_not_in, q_not_p, gl_DROP, gl_PASS, gl_TEST, gl_PUT, gl_HALT, gl_OR, gl_THEN, gl_AGAIN, gl_NOT, gl_PARTS, gl_MOST_STATES, atI_0, atI_1, atI_2, P50.f_parts_ahead, Po.d, w_oS, a.fz.1, a.fz.2]; show D.lst true (D.fzL [a.d]) = _; simp [D.fzL, a.fz.2, Po.parts]
  | not a => simp_arith [q_drop_halt, q_drop_drop, q_drop_pass, q_drop_test, q_drop_not, q_drop_again, q_drop_or, q_drop_then, q_drop_in, q_drop_p, q_pass_halt, q_pass_drop, q_pass_pass, q_pass_test, q_pass_not, q_pass_again, q_pass_or, q_pass_then, q_pass_in, q_pass_p, q_test_halt, q_test_drop, q_test_pass, q_test_test, q_test_not, q_test_again, q_test_or, q_test_then, q_test_in, q_test_p, q_put_halt, q_put_drop, q_put_pass, q_put_test, q_put_not, q_put_again, q_put_or, q_put_then, q_put_in, q_put_p, q_halt_halt, q_halt_drop, q_halt_pass, q_halt_test, q_halt_not, q_halt_again, q_halt_or, q_halt_then, q_halt_in, q_halt_p, q_or_halt, q_or_drop, q_or_pass, q_or_test, q_or_not, q_or_again, q_or_or, q_or_then, q_or_in, q_or_p, q_then_halt, q_then_drop, q_then_pass, q_then_test, q_then_not, q_then_again, q_then_or, q_then_then, q_then_in, q_then_p, q_again_halt, q_again_drop, q_again_pass, q_again_test, q_again_not, q_again_again, q_again_or, q_again_then, q_again_in, q_again_p, q_not_halt, q_not_drop, q_not_pass, q_not_test, q_not_not, q_not_again, q_not_or, q_not_then, q_not_in, q_not_p, gl_DROP, gl_PASS, gl_TEST, gl_PUT, gl_HALT, gl_OR, gl_THEN, gl_AGAIN, gl_NOT, gl_PARTS, gl_MOST_STATES, atI_0, atI_1, atI_2, P50.f_parts_ahead, Po.d, w_oS, a.fz.1, a.fz.2]; show D.lst true (D.fzL [a.d]) = _; simp [D.fzL, a.fz.2, Po.parts]
def Po.sg : Po → Str
  | .drop => Str.ofString "drop" | .pass => Str.ofString "pass" | .halt => Str.ofString "halt"
  | .test _ _ => Str.ofString "test" | .put _ _ => Str.ofString "put" | .or _ _ => Str.ofString "or"
  | .thn _ _ => Str.ofString "then" | .again _ => Str.ofString "again" | .not _ => Str.ofString "not"
def Po.isH : Po → Bool
  | .halt => true
  | _ => false
theorem w_sg {Q : D → Sto → Prop} {p : Po} : Wp (idxD p.d (.int 0)) μ Q X = Q (.str p.sg) μ := by
  cases p <;> simp only [Po.d, w_ixT, atI_0, wp_some, Po.sg]
theorem q_sg {p : Po} : cmpD .eq (.str p.sg) (.str (Str.ofString "halt")) = M.ret (.bl p.isH) := by
  cases p <;> simp only [Po.sg, Po.isH, q_drop_halt, q_pass_halt, q_halt_halt, q_test_halt, q_put_halt, q_or_halt, q_then_halt, q_again_halt, q_not_halt]
theorem fzL_po (ps : List Po) : D.fzL (ps.map Po.d) = ps.map Po.d := by
  rw [fzL_map]; exact List.map_congr_left (fun p _ => p.fz.2)
theorem nbL_po (ps : List Po) : D.nbL (ps.map Po.d) = true := by
  rw [nbL_eq]; simp [Po.fz]
theorem len_parts (p : Po) : p.parts.length ≤ 2 := by cases p <;> simp [Po.parts]
theorem any_parts (p : Po) (h : p.isH = false) : (p.parts.map (fun q => decide (0 < q.hs))).any id = decide (0 < p.hs) := by
  cases p <;> simp [Po.parts, Po.hs, Po.isH] at h ⊢
  · rw [← Bool.decide_or]; exact decide_eq_decide.2 (by omega)
  · rw [← Bool.decide_or]; exact decide_eq_decide.2 (by omega)
  · exact decide_eq_decide.2 Iff.rfl
  · exact decide_eq_decide.2 Iff.rfl
theorem s_has_halt : ∀ (k : Nat) (p : Po) (μ : Sto) (X : Str → List D → Sto → Prop), p.sz + 1 ≤ k → Wp (run pp k (Str.ofString "has_halt") [p.d]) μ (fun d μ' => μ' = μ ∧ d = .bl (decide (0 < p.hs))) X
  | 0, p, _, _, h => by omega
  | k + 1, p, μ, X, h => by
    have hp : 1 ≤ p.sz := by cases p <;> simp [Po.sz]
    rw [e_has_halt]
    simp_arith [q_drop_halt, q_drop_drop, q_drop_pass, q_drop_test, q_drop_not, q_drop_again, q_drop_or, q_drop_then, q_drop_in, q_drop_p, q_pass_halt, q_pass_drop, q_pass_pass, q_pass_test, q_pass_not, q_pass_again, q_pass_or, q_pass_then, q_pass_in, q_pass_p, q_test_halt, q_test_drop, q_test_pass, q_test_test, q_test_not, q_test_again, q_test_or, q_test_then, q_test_in, q_test_p, q_put_halt, q_put_drop, q_put_pass, q_put_test, q_put_not, q_put_again, q_put_or, q_put_then, q_put_in, q_put_p, q_halt_halt, q_halt_drop, q_halt_pass, q_halt_test, q_halt_not, q_halt_again, q_halt_or, q_halt_then, q_halt_in, q_halt_p, q_or_halt, q_or_drop, q_or_pass, q_or_test, q_or_not, q_or_again, q_or_or, q_or_then, q_or_in, q_or_p, q_then_halt, q_then_drop, q_then_pass, q_then_test, q_then_not, q_then_again, q_then_or, q_then_then, q_then_in, q_then_p, q_again_halt, q_again_drop, q_again_pass, q_again_test, q_again_not, q_again_again, q_again_or, q_again_then, q_again_in, q_again_p, q_not_halt, q_not_drop, q_not_pass, q_not_test, q_not_not, q_not_again, q_not_or, q_not_then, q_not_in, q_not_p, gl_DROP, gl_PASS, gl_TEST, gl_PUT, gl_HALT, gl_OR, gl_THEN, gl_AGAIN, gl_NOT, gl_PARTS, gl_MOST_STATES, atI_0, atI_1, atI_2, P50.f_has_halt, p.fz.1, p.fz.2, w_sg, q_sg]
    cases hh : p.isH with
    | true =>
      simp_arith [q_drop_halt, q_drop_drop, q_drop_pass, q_drop_test, q_drop_not, q_drop_again, q_drop_or, q_drop_then, q_drop_in, q_drop_p, q_pass_halt, q_pass_drop, q_pass_pass, q_pass_test, q_pass_not, q_pass_again, q_pass_or, q_pass_then, q_pass_in, q_pass_p, q_test_halt, q_test_drop, q_test_pass, q_test_test, q_test_not, q_test_again, q_test_or, q_test_then, q_test_in, q_test_p, q_put_halt, q_put_drop, q_put_pass, q_put_test, q_put_not, q_put_again, q_put_or, q_put_then, q_put_in, q_put_p, q_halt_halt, q_halt_drop, q_halt_pass, q_halt_test, q_halt_not, q_halt_again, q_halt_or, q_halt_then, q_halt_in, q_halt_p, q_or_halt, q_or_drop, q_or_pass, q_or_test, q_or_not, q_or_again, q_or_or, q_or_then, q_or_in, q_or_p, q_then_halt, q_then_drop, q_then_pass, q_then_test, q_then_not, q_then_again, q_then_or, q_then_then, q_then_in, q_then_p, q_again_halt, q_again_drop, q_again_pass, q_again_test, q_again_not, q_again_again, q_again_or, q_again_then, q_again_in, q_again_p, q_not_halt, q_not_drop, q_not_pass, q_not_test, q_not_not, q_not_again, q_not_or, q_not_then, q_not_in, q_not_p, gl_DROP, gl_PASS, gl_TEST, gl_PUT, gl_HALT, gl_OR, gl_THEN, gl_AGAIN, gl_NOT, gl_PARTS, gl_MOST_STATES, atI_0, atI_1, atI_2]
      cases p <;> simp [Po.isH] at hh
      simp [Po.hs]
    | false =>
      simp_arith [q_drop_halt, q_drop_drop, q_drop_pass, q_drop_test, q_drop_not, q_drop_again, q_drop_or, q_drop_then, q_drop_in, q_drop_p, q_pass_halt, q_pass_drop, q_pass_pass, q_pass_test, q_pass_not, q_pass_again, q_pass_or, q_pass_then, q_pass_in, q_pass_p, q_test_halt, q_test_drop, q_test_pass, q_test_test, q_test_not, q_test_again, q_test_or, q_test_then, q_test_in, q_test_p, q_put_halt, q_put_drop, q_put_pass, q_put_test, q_put_not, q_put_again, q_put_or, q_put_then, q_put_in, q_put_p, q_halt_halt, q_halt_drop, q_halt_pass, q_halt_test, q_halt_not, q_halt_again, q_halt_or, q_halt_then, q_halt_in, q_halt_p, q_or_halt, q_or_drop, q_or_pass, q_or_test, q_or_not, q_or_again, q_or_or, q_or_then, q_or_in, q_or_p, q_then_halt, q_then_drop, q_then_pass, q_then_test, q_then_not, q_then_again, q_then_or, q_then_then, q_then_in, q_then_p, q_again_halt, q_again_drop, q_again_pass, q_again_test, q_again_not, q_again_again, q_again_or, q_again_then, q_again_in, q_again_p, q_not_halt, q_not_drop, q_not_pass, q_not_test, q_not_not, q_not_again, q_not_or, q_not_then, q_not_in, q_not_p, gl_DROP, gl_PASS, gl_TEST, gl_PUT, gl_HALT, gl_OR, gl_THEN, gl_AGAIN, gl_NOT, gl_PARTS, gl_MOST_STATES, atI_0, atI_1, atI_2, p.fz.1, p.fz.2]
      refine (s_parts p (by omega)).mono ?_
      rintro d μ1 ⟨hμ, hd⟩
      subst hμ; subst hd
      simp_arith [q_drop_halt, q_drop_drop, q_drop_pass, q_drop_test, q_drop_not, q_drop_again, q_drop_or, q_drop_then, q_drop_in, q_drop_p, q_pass_halt, q_pass_drop, q_pass_pass, q_pass_test, q_pass_not, q_pass_again, q_pass_or, q_pass_then, q_pass_in, q_pass_p, q_test_halt, q_test_drop, q_test_pass, q_test_test, q_test_not, q_test_again, q_test_or, q_test_then, q_test_in, q_test_p, q_put_halt, q_put_drop, q_put_pass, q_put_test, q_put_not, q_put_again, q_put_or, q_put_then, q_put_in, q_put_p, q_halt_halt, q_halt_drop, q_halt_pass, q_halt_test, q_halt_not, q_halt_again, q_halt_or, q_halt_then, q_halt_in, q_halt_p, q_or_halt, q_or_drop, q_or_pass, q_or_test, q_or_not, q_or_again, q_or_or, q_or_then, q_or_in, q_or_p, q_then_halt, q_then_drop, q_then_pass, q_then_test, q_then_not, q_then_again, q_then_or, q_then_then, q_then_in, q_then_p, q_again_halt, q_again_drop, q_again_pass, q_again_test, q_again_not, q_again_again, q_again_or, q_again_then, q_again_in, q_again_p, q_not_halt, q_not_drop, q_not_pass, q_not_test, q_not_not, q_not_again, q_not_or, q_not_then, q_not_in, q_not_p, gl_DROP, gl_PASS, gl_TEST, gl_PUT, gl_HALT, gl_OR, gl_THEN, gl_AGAIN, gl_NOT, gl_PARTS, gl_MOST_STATES, atI_0, atI_1, atI_2, fzL_po]
      refine wp_mapV Po.d (fun q => .bl (decide (0 < q.hs))) p.parts [] _ (by have := len_parts p; simp [line_eq]; omega) ?_ ?_
      · intro q hq
        have := p.sz_parts q hq
        simp_arith [q_drop_halt, q_drop_drop, q_drop_pass, q_drop_test, q_drop_not, q_drop_again, q_drop_or, q_drop_then, q_drop_in, q_drop_p, q_pass_halt, q_pass_drop, q_pass_pass, q_pass_test, q_pass_not, q_pass_again, q_pass_or, q_pass_then, q_pass_in, q_pass_p, q_test_halt, q_test_drop, q_test_pass, q_test_test, q_test_not, q_test_again, q_test_or, q_test_then, q_test_in, q_test_p, q_put_halt, q_put_drop, q_put_pass, q_put_test, q_put_not, q_put_again, q_put_or, q_put_then, q_put_in, q_put_p, q_halt_halt, q_halt_drop, q_halt_pass, q_halt_test, q_halt_not, q_halt_again, q_halt_or, q_halt_then, q_halt_in, q_halt_p, q_or_halt, q_or_drop, q_or_pass, q_or_test, q_or_not, q_or_again, q_or_or, q_or_then, q_or_in, q_or_p, q_then_halt, q_then_drop, q_then_pass, q_then_test, q_then_not, q_then_again, q_then_or, q_then_then, q_then_in, q_then_p, q_again_halt, q_again_drop, q_again_pass, q_again_test, q_again_not, q_again_again, q_again_or, q_again_then, q_again_in, q_again_p, q_not_halt, q_not_drop, q_not_pass, q_not_test, q_not_not, q_not_again, q_not_or, q_not_then, q_not_in, q_not_p, gl_DROP, gl_PASS, gl_TEST, gl_PUT, gl_HALT, gl_OR, gl_THEN, gl_AGAIN, gl_NOT, gl_PARTS, gl_MOST_STATES, atI_0, atI_1, atI_2, q.fz.1, q.fz.2]
        refine (s_has_halt k q _ _ (by omega)).mono ?_
        rintro d μ1 ⟨hμ, hd⟩
        subst hμ; subst hd
        exact ⟨rfl, rfl⟩
      · simp_arith [q_drop_halt, q_drop_drop, q_drop_pass, q_drop_test, q_drop_not, q_drop_again, q_drop_or, q_drop_then, q_drop_in, q_drop_p, q_pass_halt, q_pass_drop, q_pass_pass, q_pass_test, q_pass_not, q_pass_again, q_pass_or, q_pass_then, q_pass_in, q_pass_p, q_test_halt, q_test_drop, q_test_pass, q_test_test, q_test_not, q_test_again, q_test_or, q_test_then, q_test_in, q_test_p, q_put_halt, q_put_drop, q_put_pass, q_put_test, q_put_not, q_put_again, q_put_or, q_put_then, q_put_in, q_put_p, q_halt_halt, q_halt_drop, q_halt_pass, q_halt_test, q_halt_not, q_halt_again, q_halt_or, q_halt_then, q_halt_in, q_halt_p, q_or_halt, q_or_drop, q_or_pass, q_or_test, q_or_not, q_or_again, q_or_or, q_or_then, q_or_in, q_or_p, q_then_halt, q_then_drop, q_then_pass, q_then_test, q_then_not, q_then_again, q_then_or, q_then_then, q_then_in, q_then_p, q_again_halt, q_again_drop, q_again_pass, q_again_test, q_again_not, q_again_again, q_again_or, q_again_then, q_again_in, q_again_p, q_not_halt, q_not_drop, q_not_pass, q_not_test, q_not_not, q_not_again, q_not_or, q_not_then, q_not_in, q_not_p, gl_DROP, gl_PASS, gl_TEST, gl_PUT, gl_HALT, gl_OR, gl_THEN, gl_AGAIN, gl_NOT, gl_PARTS, gl_MOST_STATES, atI_0, atI_1, atI_2]
        rw [show p.parts.map (fun q => D.bl (decide (0 < q.hs))) = (p.parts.map (fun q => decide (0 < q.hs))).map D.bl by simp, show D.fzL ((p.parts.map (fun q => decide (0 < q.hs))).map D.bl) = (p.parts.map (fun q => decide (0 < q.hs))).map D.bl by rw [fzL_map]; rfl]
        rw [w_any, any_parts p hh]
        exact ⟨rfl, rfl⟩
theorem sum_parts (p : Po) (h : p.isH = false) : (p.parts.map (fun q => (q.hs : Int))).sum = p.hs := by
  cases p <;> simp [Po.parts, Po.hs, Po.isH] at h ⊢
theorem s_count_halts : ∀ (k : Nat) (p : Po) (μ : Sto) (X : Str → List D → Sto → Prop), p.sz + 1 ≤ k → Wp (run pp k (Str.ofString "count_halts") [p.d]) μ (fun d μ' => μ' = μ ∧ d = .int p.hs) X
  | 0, p, _, _, h => by omega
  | k + 1, p, μ, X, h => by
    have hp : 1 ≤ p.sz := by cases p <;> simp [Po.sz]
    rw [e_count_halts]
    simp_arith [q_drop_halt, q_drop_drop, q_drop_pass, q_drop_test, q_drop_not, q_drop_again, q_drop_or, q_drop_then, q_drop_in, q_drop_p, q_pass_halt, q_pass_drop, q_pass_pass, q_pass_test, q_pass_not, q_pass_again, q_pass_or, q_pass_then, q_pass_in, q_pass_p, q_test_halt, q_test_drop, q_test_pass, q_test_test, q_test_not, q_test_again, q_test_or, q_test_then, q_test_in, q_test_p, q_put_halt, q_put_drop, q_put_pass, q_put_test, q_put_not, q_put_again, q_put_or, q_put_then, q_put_in, q_put_p, q_halt_halt, q_halt_drop, q_halt_pass, q_halt_test, q_halt_not, q_halt_again, q_halt_or, q_halt_then, q_halt_in, q_halt_p, q_or_halt, q_or_drop, q_or_pass, q_or_test, q_or_not, q_or_again, q_or_or, q_or_then, q_or_in, q_or_p, q_then_halt, q_then_drop, q_then_pass, q_then_test, q_then_not, q_then_again, q_then_or, q_then_then, q_then_in, q_then_p, q_again_halt, q_again_drop, q_again_pass, q_again_test, q_again_not, q_again_again, q_again_or, q_again_then, q_again_in, q_again_p, q_not_halt, q_not_drop, q_not_pass, q_not_test, q_not_not, q_not_again, q_not_or, q_not_then, q_not_in, q_not_p, gl_DROP, gl_PASS, gl_TEST, gl_PUT, gl_HALT, gl_OR, gl_THEN, gl_AGAIN, gl_NOT, gl_PARTS, gl_MOST_STATES, atI_0, atI_1, atI_2, P50.f_count_halts, p.fz.1, p.fz.2, w_sg, q_sg]
    refine (s_parts p (by omega)).mono ?_
    rintro d μ1 ⟨hμ, hd⟩
    subst hμ; subst hd
    simp_arith [q_drop_halt, q_drop_drop, q_drop_pass, q_drop_test, q_drop_not, q_drop_again, q_drop_or, q_drop_then, q_drop_in, q_drop_p, q_pass_halt, q_pass_drop, q_pass_pass, q_pass_test, q_pass_not, q_pass_again, q_pass_or, q_pass_then, q_pass_in, q_pass_p, q_test_halt, q_test_drop, q_test_pass, q_test_test, q_test_not, q_test_again, q_test_or, q_test_then, q_test_in, q_test_p, q_put_halt, q_put_drop, q_put_pass, q_put_test, q_put_not, q_put_again, q_put_or, q_put_then, q_put_in, q_put_p, q_halt_halt, q_halt_drop, q_halt_pass, q_halt_test, q_halt_not, q_halt_again, q_halt_or, q_halt_then, q_halt_in, q_halt_p, q_or_halt, q_or_drop, q_or_pass, q_or_test, q_or_not, q_or_again, q_or_or, q_or_then, q_or_in, q_or_p, q_then_halt, q_then_drop, q_then_pass, q_then_test, q_then_not, q_then_again, q_then_or, q_then_then, q_then_in, q_then_p, q_again_halt, q_again_drop, q_again_pass, q_again_test, q_again_not, q_again_again, q_again_or, q_again_then, q_again_in, q_again_p, q_not_halt, q_not_drop, q_not_pass, q_not_test, q_not_not, q_not_again, q_not_or, q_not_then, q_not_in, q_not_p, gl_DROP, gl_PASS, gl_TEST, gl_PUT, gl_HALT, gl_OR, gl_THEN, gl_AGAIN, gl_NOT, gl_PARTS, gl_MOST_STATES, atI_0, atI_1, atI_2, fzL_po]
    refine wp_mapV Po.d (fun q => .int q.hs) p.parts [] _ (by have := len_parts p; simp [line_eq]; omega) ?_ ?_
    · intro q hq
      have := p.sz_parts q hq
      simp_arith [q_drop_halt, q_drop_drop, q_drop_pass, q_drop_test, q_drop_not, q_drop_again, q_drop_or, q_drop_then, q_drop_in, q_drop_p, q_pass_halt, q_pass_drop, q_pass_pass, q_pass_test, q_pass_not, q_pass_again, q_pass_or, q_pass_then, q_pass_in, q_pass_p, q_test_halt, q_test_drop, q_test_pass, q_test_test, q_test_not, q_test_again, q_test_or, q_test_then, q_test_in, q_test_p, q_put_halt, q_put_drop, q_put_pass, q_put_test, q_put_not, q_put_again, q_put_or, q_put_then, q_put_in, q_put_p, q_halt_halt, q_halt_drop, q_halt_pass, q_halt_test, q_halt_not, q_halt_again, q_halt_or, q_halt_then, q_halt_in, q_halt_p, q_or_halt, q_or_drop, q_or_pass, q_or_test, q_or_not, q_or_again, q_or_or, q_or_then, q_or_in, q_or_p, q_then_halt, q_then_drop, q_then_pass, q_then_test, q_then_not, q_then_again, q_then_or, q_then_then, q_then_in, q_then_p, q_again_halt, q_again_drop, q_again_pass, q_again_test, q_again_not, q_again_again, q_again_or, q_again_then, q_again_in, q_again_p, q_not_halt, q_not_drop, q_not_pass, q_not_test, q_not_not, q_not_again, q_not_or, q_not_then, q_not_in, q_not_p, gl_DROP, gl_PASS, gl_TEST, gl_PUT, gl_HALT, gl_OR, gl_THEN, gl_AGAIN, gl_NOT, gl_PARTS, gl_MOST_STATES, atI_0, atI_1, atI_2, q.fz.1, q.fz.2]
      refine (s_count_halts k q _ _ (by omega)).mono ?_
      rintro d μ1 ⟨hμ, hd⟩
      subst hμ; subst hd
      exact ⟨rfl, rfl⟩
    · simp_arith [q_drop_halt, q_drop_drop, q_drop_pass, q_drop_test, q_drop_not, q_drop_again, q_drop_or, q_drop_then, q_drop_in, q_drop_p, q_pass_halt, q_pass_drop, q_pass_pass, q_pass_test, q_pass_not, q_pass_again, q_pass_or, q_pass_then, q_pass_in, q_pass_p, q_test_halt, q_test_drop, q_test_pass, q_test_test, q_test_not, q_test_again, q_test_or, q_test_then, q_test_in, q_test_p, q_put_halt, q_put_drop, q_put_pass, q_put_test, q_put_not, q_put_again, q_put_or, q_put_then, q_put_in, q_put_p, q_halt_halt, q_halt_drop, q_halt_pass, q_halt_test, q_halt_not, q_halt_again, q_halt_or, q_halt_then, q_halt_in, q_halt_p, q_or_halt, q_or_drop, q_or_pass, q_or_test, q_or_not, q_or_again, q_or_or, q_or_then, q_or_in, q_or_p, q_then_halt, q_then_drop, q_then_pass, q_then_test, q_then_not, q_then_again, q_then_or, q_then_then, q_then_in, q_then_p, q_again_halt, q_again_drop, q_again_pass, q_again_test, q_again_not, q_again_again, q_again_or, q_again_then, q_again_in, q_again_p, q_not_halt, q_not_drop, q_not_pass, q_not_test, q_not_not, q_not_again, q_not_or, q_not_then, q_not_in, q_not_p, gl_DROP, gl_PASS, gl_TEST, gl_PUT, gl_HALT, gl_OR, gl_THEN, gl_AGAIN, gl_NOT, gl_PARTS, gl_MOST_STATES, atI_0, atI_1, atI_2]
      rw [show p.parts.map (fun q => D.int q.hs) = (p.parts.map (fun q => (q.hs : Int))).map D.int by simp, fzL_ints, w_sum]
      simp_arith [q_drop_halt, q_drop_drop, q_drop_pass, q_drop_test, q_drop_not, q_drop_again, q_drop_or, q_drop_then, q_drop_in, q_drop_p, q_pass_halt, q_pass_drop, q_pass_pass, q_pass_test, q_pass_not, q_pass_again, q_pass_or, q_pass_then, q_pass_in, q_pass_p, q_test_halt, q_test_drop, q_test_pass, q_test_test, q_test_not, q_test_again, q_test_or, q_test_then, q_test_in, q_test_p, q_put_halt, q_put_drop, q_put_pass, q_put_test, q_put_not, q_put_again, q_put_or, q_put_then, q_put_in, q_put_p, q_halt_halt, q_halt_drop, q_halt_pass, q_halt_test, q_halt_not, q_halt_again, q_halt_or, q_halt_then, q_halt_in, q_halt_p, q_or_halt, q_or_drop, q_or_pass, q_or_test, q_or_not, q_or_again, q_or_or, q_or_then, q_or_in, q_or_p, q_then_halt, q_then_drop, q_then_pass, q_then_test, q_then_not, q_then_again, q_then_or, q_then_then, q_then_in, q_then_p, q_again_halt, q_again_drop, q_again_pass, q_again_test, q_again_not, q_again_again, q_again_or, q_again_then, q_again_in, q_again_p, q_not_halt, q_not_drop, q_not_pass, q_not_test, q_not_not, q_not_again, q_not_or, q_not_then, q_not_in, q_not_p, gl_DROP, gl_PASS, gl_TEST, gl_PUT, gl_HALT, gl_OR, gl_THEN, gl_AGAIN, gl_NOT, gl_PARTS, gl_MOST_STATES, atI_0, atI_1, atI_2]
      cases hh : p.isH with
      | true =>
        cases p <;> simp [Po.isH] at hh
        simp [Po.hs, Po.parts]
      | false =>
        rw [sum_parts p hh]
        simp
theorem s_table_of_sign {k : Nat} {F : D} {ws : List Nat} (hF : Fd F ws) (p : Po) (hp : p.Ok ws) (hs : p.parts = []) (hh : p.isH = false) (hk : 8 ≤ k) : Wp (run pp k (Str.ofString "table_of_sign") [F, p.d]) μ (Pu (Tab (prd ws)) μ) X := by
  obtain ⟨k, rfl⟩ : ∃ j, k = j + 8 := ⟨k - 8, by omega⟩
  have hn : prd ws ≤ 16 := by cases hF <;> decide
  have hf : F.nb = true ∧ F.fz = F := by cases hF <;> exact ⟨rfl, rfl⟩
  cases p with
  | drop =>
    rw [e_table_of_sign]
    simp_arith [q_drop_halt, q_drop_drop, q_drop_pass, q_drop_test, q_drop_not, q_drop_again, q_drop_or, q_drop_then, q_drop_in, q_drop_p, q_pass_halt, q_pass_drop, q_pass_pass, q_pass_test, q_pass_not, q_pass_again, q_pass_or, q_pass_then, q_pass_in, q_pass_p, q_test_halt, q_test_drop, q_test_pass, q_test_test, q_test_not, q_test_again, q_test_or, q_test_then, q_test_in, q_test_p, q_put_halt, q_put_drop, q_put_pass, q_put_test, q_put_not, q_put_again, q_put_or, q_put_then, q_put_in, q_put_p, q_halt_halt, q_halt_drop, q_halt_pass, q_halt_test, q_halt_not, q_halt_again, q_halt_or, q_halt_then, q_halt_in, q_halt_p, q_or_halt, q_or_drop, q_or_pass, q_or_test, q_or_not, q_or_again, q_or_or, q_or_then, q_or_in, q_or_p, q_then_halt, q_then_drop, q_then_pass, q_then_test, q_then_not, q_then_again, q_then_or, q_then_then, q_then_in, q_then_p, q_again_halt, q_again_drop, q_again_pass, q_again_test, q_again_not, q_again_again, q_again_or, q_again_then, q_again_in, q_again_p, q_not_halt, q_not_drop, q_not_pass, q_not_test, q_not_not, q_not_again, q_not_or, q_not_then, q_not_in, q_not_p, gl_DROP, gl_PASS, gl_TEST, gl_PUT, gl_HALT, gl_OR, gl_THEN, gl_AGAIN, gl_NOT, gl_PARTS, gl_MOST_STATES, atI_0, atI_1, atI_2, P50.f_table_of_sign, Po.d, hf.1, hf.2]
    refine Wp.of_ok (ccount_parcels hF (k + 3) _) ?_
    simp_arith [q_drop_halt, q_drop_drop, q_drop_pass, q_drop_test, q_drop_not, q_drop_again, q_drop_or, q_drop_then, q_drop_in, q_drop_p, q_pass_halt, q_pass_drop, q_pass_pass, q_pass_test, q_pass_not, q_pass_again, q_pass_or, q_pass_then, q_pass_in, q_pass_p, q_test_halt, q_test_drop, q_test_pass, q_test_test, q_test_not, q_test_again, q_test_or, q_test_then, q_test_in, q_test_p, q_put_halt, q_put_drop, q_put_pass, q_put_test, q_put_not, q_put_again, q_put_or, q_put_then, q_put_in, q_put_p, q_halt_halt, q_halt_drop, q_halt_pass, q_halt_test, q_halt_not, q_halt_again, q_halt_or, q_halt_then, q_halt_in, q_halt_p, q_or_halt, q_or_drop, q_or_pass, q_or_test, q_or_not, q_or_again, q_or_or, q_or_then, q_or_in, q_or_p, q_then_halt, q_then_drop, q_then_pass, q_then_test, q_then_not, q_then_again, q_then_or, q_then_then, q_then_in, q_then_p, q_again_halt, q_again_drop, q_again_pass, q_again_test, q_again_not, q_again_again, q_again_or, q_again_then, q_again_in, q_again_p, q_not_halt, q_not_drop, q_not_pass, q_not_test, q_not_not, q_not_again, q_not_or, q_not_then, q_not_in, q_not_p, gl_DROP, gl_PASS, gl_TEST, gl_PUT, gl_HALT, gl_OR, gl_THEN, gl_AGAIN, gl_NOT, gl_PARTS, gl_MOST_STATES, atI_0, atI_1, atI_2]
    refine (s_drop_table (by omega) hn).mono ?_
    rintro d μ1 ⟨hμ, h⟩
    subst hμ
    simp_arith [q_drop_halt, q_drop_drop, q_drop_pass, q_drop_test, q_drop_not, q_drop_again, q_drop_or, q_drop_then, q_drop_in, q_drop_p, q_pass_halt, q_pass_drop, q_pass_pass, q_pass_test, q_pass_not, q_pass_again, q_pass_or, q_pass_then, q_pass_in, q_pass_p, q_test_halt, q_test_drop, q_test_pass, q_test_test, q_test_not, q_test_again, q_test_or, q_test_then, q_test_in, q_test_p, q_put_halt, q_put_drop, q_put_pass, q_put_test, q_put_not, q_put_again, q_put_or, q_put_then, q_put_in, q_put_p, q_halt_halt, q_halt_drop, q_halt_pass, q_halt_test, q_halt_not, q_halt_again, q_halt_or, q_halt_then, q_halt_in, q_halt_p, q_or_halt, q_or_drop, q_or_pass, q_or_test, q_or_not, q_or_again, q_or_or, q_or_then, q_or_in, q_or_p, q_then_halt, q_then_drop, q_then_pass, q_then_test, q_then_not, q_then_again, q_then_or, q_then_then, q_then_in, q_then_p, q_again_halt, q_again_drop, q_again_pass, q_again_test, q_again_not, q_again_again, q_again_or, q_again_then, q_again_in, q_again_p, q_not_halt, q_not_drop, q_not_pass, q_not_test, q_not_not, q_not_again, q_not_or, q_not_then, q_not_in, q_not_p, gl_DROP, gl_PASS, gl_TEST, gl_PUT, gl_HALT, gl_OR, gl_THEN, gl_AGAIN, gl_NOT, gl_PARTS, gl_MOST_STATES, atI_0, atI_1, atI_2]
    rw [h]; exact Tab_Dr _
  | pass =>
    rw [e_table_of_sign]
    simp_arith [q_drop_halt, q_drop_drop, q_drop_pass, q_drop_test, q_drop_not, q_drop_again, q_drop_or, q_drop_then, q_drop_in, q_drop_p, q_pass_halt, q_pass_drop, q_pass_pass, q_pass_test, q_pass_not, q_pass_again, q_pass_or, q_pass_then, q_pass_in, q_pass_p, q_test_halt, q_test_drop, q_test_pass, q_test_test, q_test_not, q_test_again, q_test_or, q_test_then, q_test_in, q_test_p, q_put_halt, q_put_drop, q_put_pass, q_put_test, q_put_not, q_put_again, q_put_or, q_put_then, q_put_in, q_put_p, q_halt_halt, q_halt_drop, q_halt_pass, q_halt_test, q_halt_not, q_halt_again, q_halt_or, q_halt_then, q_halt_in, q_halt_p, q_or_halt, q_or_drop, q_or_pass, q_or_test, q_or_not, q_or_again, q_or_or, q_or_then, q_or_in, q_or_p, q_then_halt, q_then_drop, q_then_pass, q_then_test, q_then_not, q_then_again, q_then_or, q_then_then, q_then_in, q_then_p, q_again_halt, q_again_drop, q_again_pass, q_again_test, q_again_not, q_again_again, q_again_or, q_again_then, q_again_in, q_again_p, q_not_halt, q_not_drop, q_not_pass, q_not_test, q_not_not, q_not_again, q_not_or, q_not_then, q_not_in, q_not_p, gl_DROP, gl_PASS, gl_TEST, gl_PUT, gl_HALT, gl_OR, gl_THEN, gl_AGAIN, gl_NOT, gl_PARTS, gl_MOST_STATES, atI_0, atI_1, atI_2, P50.f_table_of_sign, Po.d, hf.1, hf.2]
    refine Wp.of_ok (ccount_parcels hF (k + 3) _) ?_
    simp_arith [q_drop_halt, q_drop_drop, q_drop_pass, q_drop_test, q_drop_not, q_drop_again, q_drop_or, q_drop_then, q_drop_in, q_drop_p, q_pass_halt, q_pass_drop, q_pass_pass, q_pass_test, q_pass_not, q_pass_again, q_pass_or, q_pass_then, q_pass_in, q_pass_p, q_test_halt, q_test_drop, q_test_pass, q_test_test, q_test_not, q_test_again, q_test_or, q_test_then, q_test_in, q_test_p, q_put_halt, q_put_drop, q_put_pass, q_put_test, q_put_not, q_put_again, q_put_or, q_put_then, q_put_in, q_put_p, q_halt_halt, q_halt_drop, q_halt_pass, q_halt_test, q_halt_not, q_halt_again, q_halt_or, q_halt_then, q_halt_in, q_halt_p, q_or_halt, q_or_drop, q_or_pass, q_or_test, q_or_not, q_or_again, q_or_or, q_or_then, q_or_in, q_or_p, q_then_halt, q_then_drop, q_then_pass, q_then_test, q_then_not, q_then_again, q_then_or, q_then_then, q_then_in, q_then_p, q_again_halt, q_again_drop, q_again_pass, q_again_test, q_again_not, q_again_again, q_again_or, q_again_then, q_again_in, q_again_p, q_not_halt, q_not_drop, q_not_pass, q_not_test, q_not_not, q_not_again, q_not_or, q_not_then, q_not_in, q_not_p, gl_DROP, gl_PASS, gl_TEST, gl_PUT, gl_HALT, gl_OR, gl_THEN, gl_AGAIN, gl_NOT, gl_PARTS, gl_MOST_STATES, atI_0, atI_1, atI_2]
    refine (s_pass_table (by omega) hn).mono ?_
    rintro d μ1 ⟨hμ, h⟩
    subst hμ
    simp_arith [q_drop_halt, q_drop_drop, q_drop_pass, q_drop_test, q_drop_not, q_drop_again, q_drop_or, q_drop_then, q_drop_in, q_drop_p, q_pass_halt, q_pass_drop, q_pass_pass, q_pass_test, q_pass_not, q_pass_again, q_pass_or, q_pass_then, q_pass_in, q_pass_p, q_test_halt, q_test_drop, q_test_pass, q_test_test, q_test_not, q_test_again, q_test_or, q_test_then, q_test_in, q_test_p, q_put_halt, q_put_drop, q_put_pass, q_put_test, q_put_not, q_put_again, q_put_or, q_put_then, q_put_in, q_put_p, q_halt_halt, q_halt_drop, q_halt_pass, q_halt_test, q_halt_not, q_halt_again, q_halt_or, q_halt_then, q_halt_in, q_halt_p, q_or_halt, q_or_drop, q_or_pass, q_or_test, q_or_not, q_or_again, q_or_or, q_or_then, q_or_in, q_or_p, q_then_halt, q_then_drop, q_then_pass, q_then_test, q_then_not, q_then_again, q_then_or, q_then_then, q_then_in, q_then_p, q_again_halt, q_again_drop, q_again_pass, q_again_test, q_again_not, q_again_again, q_again_or, q_again_then, q_again_in, q_again_p, q_not_halt, q_not_drop, q_not_pass, q_not_test, q_not_not, q_not_again, q_not_or, q_not_then, q_not_in, q_not_p, gl_DROP, gl_PASS, gl_TEST, gl_PUT, gl_HALT, gl_OR, gl_THEN, gl_AGAIN, gl_NOT, gl_PARTS, gl_MOST_STATES, atI_0, atI_1, atI_2, h]
  | test f w =>
    obtain ⟨h1, h2⟩ := hp
    obtain ⟨T, e, hT⟩ := ts_test hF f w h1 h2 k μ
    exact Wp.of_ok e ⟨rfl, chkT_tab hT⟩
  | put f w =>
    obtain ⟨h1, h2⟩ := hp
    obtain ⟨T, e, hT⟩ := ts_put hF f w h1 h2 k μ
    exact Wp.of_ok e ⟨rfl, chkT_tab hT⟩
  | halt => simp [Po.isH] at hh
  | or a b => simp [Po.parts] at hs
  | thn a b => simp [Po.parts] at hs
  | again a => simp [Po.parts] at hs
  | not a => simp [Po.parts] at hs
theorem s_told_table {F : D} {ws : List Nat} (hF : Fd F ws) : ∀ (k : Nat) (p : Po) (μ : Sto) (X : Str → List D → Sto → Prop), p.sz + 9 ≤ k → p.Ok ws → p.hs = 0 → Wp (run pp k (Str.ofString "told_table") [F, p.d]) μ (Pu (Tab (prd ws)) μ) X
  | 0, p, _, _, h, _, _ => by omega
  | k + 1, p, μ, X, h, hp, h0 => by
    have hn : prd ws ≤ 16 := by cases hF <;> decide
    have hf : F.nb = true ∧ F.fz = F := by cases hF <;> exact ⟨rfl, rfl⟩
    have hz := p.fz
    rw [e_told_table]
    cases p with
    | halt => simp [Po.hs] at h0
    | drop =>
      simp_arith [q_drop_halt, q_drop_drop, q_drop_pass, q_drop_test, q_drop_not, q_drop_again, q_drop_or, q_drop_then, q_drop_in, q_drop_p, q_pass_halt, q_pass_drop, q_pass_pass, q_pass_test, q_pass_not, q_pass_again, q_pass_or, q_pass_then, q_pass_in, q_pass_p, q_test_halt, q_test_drop, q_test_pass, q_test_test, q_test_not, q_test_again, q_test_or, q_test_then, q_test_in, q_test_p, q_put_halt, q_put_drop, q_put_pass, q_put_test, q_put_not, q_put_again, q_put_or, q_put_then, q_put_in, q_put_p, q_halt_halt, q_halt_drop, q_halt_pass, q_halt_test, q_halt_not, q_halt_again, q_halt_or, q_halt_then, q_halt_in, q_halt_p, q_or_halt, q_or_drop, q_or_pass, q_or_test, q_or_not, q_or_again, q_or_or, q_or_then, q_or_in, q_or_p, q_then_halt, q_then_drop, q_then_pass, q_then_test, q_then_not, q_then_again, q_then_or, q_then_then, q_then_in, q_then_p, q_again_halt, q_again_drop, q_again_pass, q_again_test, q_again_not, q_again_again, q_again_or, q_again_then, q_again_in, q_again_p, q_not_halt, q_not_drop, q_not_pass, q_not_test, q_not_not, q_not_again, q_not_or, q_not_then, q_not_in, q_not_p, gl_DROP, gl_PASS, gl_TEST, gl_PUT, gl_HALT, gl_OR, gl_THEN, gl_AGAIN, gl_NOT, gl_PARTS, gl_MOST_STATES, atI_0, atI_1, atI_2, P50.f_told_table, Po.d, hf.1, hf.2]
      refine (s_table_of_sign hF .drop hp rfl rfl (by simp [Po.sz] at h; omega)).mono ?_
      rintro d μ1 ⟨hμ, h⟩
      subst hμ; simp_arith [q_drop_halt, q_drop_drop, q_drop_pass, q_drop_test, q_drop_not, q_drop_again, q_drop_or, q_drop_then, q_drop_in, q_drop_p, q_pass_halt, q_pass_drop, q_pass_pass, q_pass_test, q_pass_not, q_pass_again, q_pass_or, q_pass_then, q_pass_in, q_pass_p, q_test_halt, q_test_drop, q_test_pass, q_test_test, q_test_not, q_test_again, q_test_or, q_test_then, q_test_in, q_test_p, q_put_halt, q_put_drop, q_put_pass, q_put_test, q_put_not, q_put_again, q_put_or, q_put_then, q_put_in, q_put_p, q_halt_halt, q_halt_drop, q_halt_pass, q_halt_test, q_halt_not, q_halt_again, q_halt_or, q_halt_then, q_halt_in, q_halt_p, q_or_halt, q_or_drop, q_or_pass, q_or_test, q_or_not, q_or_again, q_or_or, q_or_then, q_or_in, q_or_p, q_then_halt, q_then_drop, q_then_pass, q_then_test, q_then_not, q_then_again, q_then_or, q_then_then, q_then_in, q_then_p, q_again_halt, q_again_drop, q_again_pass, q_again_test, q_again_not, q_again_again, q_again_or, q_again_then, q_again_in, q_again_p, q_not_halt, q_not_drop, q_not_pass, q_not_test, q_not_not, q_not_again, q_not_or, q_not_then, q_not_in, q_not_p, gl_DROP, gl_PASS, gl_TEST, gl_PUT, gl_HALT, gl_OR, gl_THEN, gl_AGAIN, gl_NOT, gl_PARTS, gl_MOST_STATES, atI_0, atI_1, atI_2, h]
    | pass =>
      simp_arith [q_drop_halt, q_drop_drop, q_drop_pass, q_drop_test, q_drop_not, q_drop_again, q_drop_or, q_drop_then, q_drop_in, q_drop_p, q_pass_halt, q_pass_drop, q_pass_pass, q_pass_test, q_pass_not, q_pass_again, q_pass_or, q_pass_then, q_pass_in, q_pass_p, q_test_halt, q_test_drop, q_test_pass, q_test_test, q_test_not, q_test_again, q_test_or, q_test_then, q_test_in, q_test_p, q_put_halt, q_put_drop, q_put_pass, q_put_test, q_put_not, q_put_again, q_put_or, q_put_then, q_put_in, q_put_p, q_halt_halt, q_halt_drop, q_halt_pass, q_halt_test, q_halt_not, q_halt_again, q_halt_or, q_halt_then, q_halt_in, q_halt_p, q_or_halt, q_or_drop, q_or_pass, q_or_test, q_or_not, q_or_again, q_or_or, q_or_then, q_or_in, q_or_p, q_then_halt, q_then_drop, q_then_pass, q_then_test, q_then_not, q_then_again, q_then_or, q_then_then, q_then_in, q_then_p, q_again_halt, q_again_drop, q_again_pass, q_again_test, q_again_not, q_again_again, q_again_or, q_again_then, q_again_in, q_again_p, q_not_halt, q_not_drop, q_not_pass, q_not_test, q_not_not, q_not_again, q_not_or, q_not_then, q_not_in, q_not_p, gl_DROP, gl_PASS, gl_TEST, gl_PUT, gl_HALT, gl_OR, gl_THEN, gl_AGAIN, gl_NOT, gl_PARTS, gl_MOST_STATES, atI_0, atI_1, atI_2, P50.f_told_table, Po.d, hf.1, hf.2]
      refine (s_table_of_sign hF .pass hp rfl rfl (by simp [Po.sz] at h; omega)).mono ?_
      rintro d μ1 ⟨hμ, h⟩
      subst hμ; simp_arith [q_drop_halt, q_drop_drop, q_drop_pass, q_drop_test, q_drop_not, q_drop_again, q_drop_or, q_drop_then, q_drop_in, q_drop_p, q_pass_halt, q_pass_drop, q_pass_pass, q_pass_test, q_pass_not, q_pass_again, q_pass_or, q_pass_then, q_pass_in, q_pass_p, q_test_halt, q_test_drop, q_test_pass, q_test_test, q_test_not, q_test_again, q_test_or, q_test_then, q_test_in, q_test_p, q_put_halt, q_put_drop, q_put_pass, q_put_test, q_put_not, q_put_again, q_put_or, q_put_then, q_put_in, q_put_p, q_halt_halt, q_halt_drop, q_halt_pass, q_halt_test, q_halt_not, q_halt_again, q_halt_or, q_halt_then, q_halt_in, q_halt_p, q_or_halt, q_or_drop, q_or_pass, q_or_test, q_or_not, q_or_again, q_or_or, q_or_then, q_or_in, q_or_p, q_then_halt, q_then_drop, q_then_pass, q_then_test, q_then_not, q_then_again, q_then_or, q_then_then, q_then_in, q_then_p, q_again_halt, q_again_drop, q_again_pass, q_again_test, q_again_not, q_again_again, q_again_or, q_again_then, q_again_in, q_again_p, q_not_halt, q_not_drop, q_not_pass, q_not_test, q_not_not, q_not_again, q_not_or, q_not_then, q_not_in, q_not_p, gl_DROP, gl_PASS, gl_TEST, gl_PUT, gl_HALT, gl_OR, gl_THEN, gl_AGAIN, gl_NOT, gl_PARTS, gl_MOST_STATES, atI_0, atI_1, atI_2, h]
    | test f w =>
      simp_arith [q_drop_halt, q_drop_drop, q_drop_pass, q_drop_test, q_drop_not, q_drop_again, q_drop_or, q_drop_then, q_drop_in, q_drop_p, q_pass_halt, q_pass_drop, q_pass_pass, q_pass_test, q_pass_not, q_pass_again, q_pass_or, q_pass_then, q_pass_in, q_pass_p, q_test_halt, q_test_drop, q_test_pass, q_test_test, q_test_not, q_test_again, q_test_or, q_test_then, q_test_in, q_test_p, q_put_halt, q_put_drop, q_put_pass, q_put_test, q_put_not, q_put_again, q_put_or, q_put_then, q_put_in, q_put_p, q_halt_halt, q_halt_drop, q_halt_pass, q_halt_test, q_halt_not, q_halt_again, q_halt_or, q_halt_then, q_halt_in, q_halt_p, q_or_halt, q_or_drop, q_or_pass, q_or_test, q_or_not, q_or_again, q_or_or, q_or_then, q_or_in, q_or_p, q_then_halt, q_then_drop, q_then_pass, q_then_test, q_then_not, q_then_again, q_then_or, q_then_then, q_then_in, q_then_p, q_again_halt, q_again_drop, q_again_pass, q_again_test, q_again_not, q_again_again, q_again_or, q_again_then, q_again_in, q_again_p, q_not_halt, q_not_drop, q_not_pass, q_not_test, q_not_not, q_not_again, q_not_or, q_not_then, q_not_in, q_not_p, gl_DROP, gl_PASS, gl_TEST, gl_PUT, gl_HALT, gl_OR, gl_THEN, gl_AGAIN, gl_NOT, gl_PARTS, gl_MOST_STATES, atI_0, atI_1, atI_2, P50.f_told_table, Po.d, hf.1, hf.2]
      refine (s_table_of_sign hF (.test f w) hp rfl rfl (by simp [Po.sz] at h; omega)).mono ?_
      rintro d μ1 ⟨hμ, h⟩
      subst hμ; simp_arith [q_drop_halt, q_drop_drop, q_drop_pass, q_drop_test, q_drop_not, q_drop_again, q_drop_or, q_drop_then, q_drop_in, q_drop_p, q_pass_halt, q_pass_drop, q_pass_pass, q_pass_test, q_pass_not, q_pass_again, q_pass_or, q_pass_then, q_pass_in, q_pass_p, q_test_halt, q_test_drop, q_test_pass, q_test_test, q_test_not, q_test_again, q_test_or, q_test_then, q_test_in, q_test_p, q_put_halt, q_put_drop, q_put_pass, q_put_test, q_put_not, q_put_again, q_put_or, q_put_then, q_put_in, q_put_p, q_halt_halt, q_halt_drop, q_halt_pass, q_halt_test, q_halt_not, q_halt_again, q_halt_or, q_halt_then, q_halt_in, q_halt_p, q_or_halt, q_or_drop, q_or_pass, q_or_test, q_or_not, q_or_again, q_or_or, q_or_then, q_or_in, q_or_p, q_then_halt, q_then_drop, q_then_pass, q_then_test, q_then_not, q_then_again, q_then_or, q_then_then, q_then_in, q_then_p, q_again_halt, q_again_drop, q_again_pass, q_again_test, q_again_not, q_again_again, q_again_or, q_again_then, q_again_in, q_again_p, q_not_halt, q_not_drop, q_not_pass, q_not_test, q_not_not, q_not_again, q_not_or, q_not_then, q_not_in, q_not_p, gl_DROP, gl_PASS, gl_TEST, gl_PUT, gl_HALT, gl_OR, gl_THEN, gl_AGAIN, gl_NOT, gl_PARTS, gl_MOST_STATES, atI_0, atI_1, atI_2, h]
    | put f w =>
      simp_arith [q_drop_halt, q_drop_drop, q_drop_pass, q_drop_test, q_drop_not, q_drop_again, q_drop_or, q_drop_then, q_drop_in, q_drop_p, q_pass_halt, q_pass_drop, q_pass_pass, q_pass_test, q_pass_not, q_pass_again, q_pass_or, q_pass_then, q_pass_in, q_pass_p, q_test_halt, q_test_drop, q_test_pass, q_test_test, q_test_not, q_test_again, q_test_or, q_test_then, q_test_in, q_test_p, q_put_halt, q_put_drop, q_put_pass, q_put_test, q_put_not, q_put_again, q_put_or, q_put_then, q_put_in, q_put_p, q_halt_halt, q_halt_drop, q_halt_pass, q_halt_test, q_halt_not, q_halt_again, q_halt_or, q_halt_then, q_halt_in, q_halt_p, q_or_halt, q_or_drop, q_or_pass, q_or_test, q_or_not, q_or_again, q_or_or, q_or_then, q_or_in, q_or_p, q_then_halt, q_then_drop, q_then_pass, q_then_test, q_then_not, q_then_again, q_then_or, q_then_then, q_then_in, q_then_p, q_again_halt, q_again_drop, q_again_pass, q_again_test, q_again_not, q_again_again, q_again_or, q_again_then, q_again_in, q_again_p, q_not_halt, q_not_drop, q_not_pass, q_not_test, q_not_not, q_not_again, q_not_or, q_not_then, q_not_in, q_not_p, gl_DROP, gl_PASS, gl_TEST, gl_PUT, gl_HALT, gl_OR, gl_THEN, gl_AGAIN, gl_NOT, gl_PARTS, gl_MOST_STATES, atI_0, atI_1, atI_2, P50.f_told_table, Po.d, hf.1, hf.2]
      refine (s_table_of_sign hF (.put f w) hp rfl rfl (by simp [Po.sz] at h; omega)).mono ?_
      rintro d μ1 ⟨hμ, h⟩
      subst hμ; simp_arith [q_drop_halt, q_drop_drop, q_drop_pass, q_drop_test, q_drop_not, q_drop_again, q_drop_or, q_drop_then, q_drop_in, q_drop_p, q_pass_halt, q_pass_drop, q_pass_pass, q_pass_test, q_pass_not, q_pass_again, q_pass_or, q_pass_then, q_pass_in, q_pass_p, q_test_halt, q_test_drop, q_test_pass, q_test_test, q_test_not, q_test_again, q_test_or, q_test_then, q_test_in, q_test_p, q_put_halt, q_put_drop, q_put_pass, q_put_test, q_put_not, q_put_again, q_put_or, q_put_then, q_put_in, q_put_p, q_halt_halt, q_halt_drop, q_halt_pass, q_halt_test, q_halt_not, q_halt_again, q_halt_or, q_halt_then, q_halt_in, q_halt_p, q_or_halt, q_or_drop, q_or_pass, q_or_test, q_or_not, q_or_again, q_or_or, q_or_then, q_or_in, q_or_p, q_then_halt, q_then_drop, q_then_pass, q_then_test, q_then_not, q_then_again, q_then_or, q_then_then, q_then_in, q_then_p, q_again_halt, q_again_drop, q_again_pass, q_again_test, q_again_not, q_again_again, q_again_or, q_again_then, q_again_in, q_again_p, q_not_halt, q_not_drop, q_not_pass, q_not_test, q_not_not, q_not_again, q_not_or, q_not_then, q_not_in, q_not_p, gl_DROP, gl_PASS, gl_TEST, gl_PUT, gl_HALT, gl_OR, gl_THEN, gl_AGAIN, gl_NOT, gl_PARTS, gl_MOST_STATES, atI_0, atI_1, atI_2, h]
    | not a =>
      have ha := a.fz
      simp only [Po.sz, Po.hs, Po.Ok] at h hp h0
      simp_arith [q_drop_halt, q_drop_drop, q_drop_pass, q_drop_test, q_drop_not, q_drop_again, q_drop_or, q_drop_then, q_drop_in, q_drop_p, q_pass_halt, q_pass_drop, q_pass_pass, q_pass_test, q_pass_not, q_pass_again, q_pass_or, q_pass_then, q_pass_in, q_pass_p, q_test_halt, q_test_drop, q_test_pass, q_test_test, q_test_not, q_test_again, q_test_or, q_test_then, q_test_in, q_test_p, q_put_halt, q_put_drop, q_put_pass, q_put_test, q_put_not, q_put_again, q_put_or, q_put_then, q_put_in, q_put_p, q_halt_halt, q_halt_drop, q_halt_pass, q_halt_test, q_halt_not, q_halt_again, q_halt_or, q_halt_then, q_halt_in, q_halt_p, q_or_halt, q_or_drop, q_or_pass, q_or_test, q_or_not, q_or_again, q_or_or, q_or_then, q_or_in, q_or_p, q_then_halt, q_then_drop, q_then_pass, q_then_test, q_then_not, q_then_again, q_then_or, q_then_then, q_then_in, q_then_p, q_again_halt, q_again_drop, q_again_pass, q_again_test, q_again_not, q_again_again, q_again_or, q_again_then, q_again_in, q_again_p, q_not_halt, q_not_drop, q_not_pass, q_not_test, q_not_not, q_not_again, q_not_or, q_not_then, q_not_in, q_not_p, gl_DROP, gl_PASS, gl_TEST, gl_PUT, gl_HALT, gl_OR, gl_THEN, gl_AGAIN, gl_NOT, gl_PARTS, gl_MOST_STATES, atI_0, atI_1, atI_2, P50.f_told_table, Po.d, hf.1, hf.2, ha.1, ha.2]
      refine (s_told_table hF k a _ _ (by omega) hp h0).mono ?_
      rintro d μ1 ⟨hμ, h1⟩
      subst hμ
      have h1' := Tab.fz _ h1
      simp_arith [q_drop_halt, q_drop_drop, q_drop_pass, q_drop_test, q_drop_not, q_drop_again, q_drop_or, q_drop_then, q_drop_in, q_drop_p, q_pass_halt, q_pass_drop, q_pass_pass, q_pass_test, q_pass_not, q_pass_again, q_pass_or, q_pass_then, q_pass_in, q_pass_p, q_test_halt, q_test_drop, q_test_pass, q_test_test, q_test_not, q_test_again, q_test_or, q_test_then, q_test_in, q_test_p, q_put_halt, q_put_drop, q_put_pass, q_put_test, q_put_not, q_put_again, q_put_or, q_put_then, q_put_in, q_put_p, q_halt_halt, q_halt_drop, q_halt_pass, q_halt_test, q_halt_not, q_halt_again, q_halt_or, q_halt_then, q_halt_in, q_halt_p, q_or_halt, q_or_drop, q_or_pass, q_or_test, q_or_not, q_or_again, q_or_or, q_or_then, q_or_in, q_or_p, q_then_halt, q_then_drop, q_then_pass, q_then_test, q_then_not, q_then_again, q_then_or, q_then_then, q_then_in, q_then_p, q_again_halt, q_again_drop, q_again_pass, q_again_test, q_again_not, q_again_again, q_again_or, q_again_then, q_again_in, q_again_p, q_not_halt, q_not_drop, q_not_pass, q_not_test, q_not_not, q_not_again, q_not_or, q_not_then, q_not_in, q_not_p, gl_DROP, gl_PASS, gl_TEST, gl_PUT, gl_HALT, gl_OR, gl_THEN, gl_AGAIN, gl_NOT, gl_PARTS, gl_MOST_STATES, atI_0, atI_1, atI_2, ha.1, ha.2, hf.1, hf.2, h1'.1, h1'.2]
      refine (s_table_not (by omega) hn h1).mono ?_
      rintro d μ1 ⟨hμ, h⟩
      subst hμ; simp_arith [q_drop_halt, q_drop_drop, q_drop_pass, q_drop_test, q_drop_not, q_drop_again, q_drop_or, q_drop_then, q_drop_in, q_drop_p, q_pass_halt, q_pass_drop, q_pass_pass, q_pass_test, q_pass_not, q_pass_again, q_pass_or, q_pass_then, q_pass_in, q_pass_p, q_test_halt, q_test_drop, q_test_pass, q_test_test, q_test_not, q_test_again, q_test_or, q_test_then, q_test_in, q_test_p, q_put_halt, q_put_drop, q_put_pass, q_put_test, q_put_not, q_put_again, q_put_or, q_put_then, q_put_in, q_put_p, q_halt_halt, q_halt_drop, q_halt_pass, q_halt_test, q_halt_not, q_halt_again, q_halt_or, q_halt_then, q_halt_in, q_halt_p, q_or_halt, q_or_drop, q_or_pass, q_or_test, q_or_not, q_or_again, q_or_or, q_or_then, q_or_in, q_or_p, q_then_halt, q_then_drop, q_then_pass, q_then_test, q_then_not, q_then_again, q_then_or, q_then_then, q_then_in, q_then_p, q_again_halt, q_again_drop, q_again_pass, q_again_test, q_again_not, q_again_again, q_again_or, q_again_then, q_again_in, q_again_p, q_not_halt, q_not_drop, q_not_pass, q_not_test, q_not_not, q_not_again, q_not_or, q_not_then, q_not_in, q_not_p, gl_DROP, gl_PASS, gl_TEST, gl_PUT, gl_HALT, gl_OR, gl_THEN, gl_AGAIN, gl_NOT, gl_PARTS, gl_MOST_STATES, atI_0, atI_1, atI_2, h]
    | again a =>
      have ha := a.fz
      simp only [Po.sz, Po.hs, Po.Ok] at h hp h0
      simp_arith [q_drop_halt, q_drop_drop, q_drop_pass, q_drop_test, q_drop_not, q_drop_again, q_drop_or, q_drop_then, q_drop_in, q_drop_p, q_pass_halt, q_pass_drop, q_pass_pass, q_pass_test, q_pass_not, q_pass_again, q_pass_or, q_pass_then, q_pass_in, q_pass_p, q_test_halt, q_test_drop, q_test_pass, q_test_test, q_test_not, q_test_again, q_test_or, q_test_then, q_test_in, q_test_p, q_put_halt, q_put_drop, q_put_pass, q_put_test, q_put_not, q_put_again, q_put_or, q_put_then, q_put_in, q_put_p, q_halt_halt, q_halt_drop, q_halt_pass, q_halt_test, q_halt_not, q_halt_again, q_halt_or, q_halt_then, q_halt_in, q_halt_p, q_or_halt, q_or_drop, q_or_pass, q_or_test, q_or_not, q_or_again, q_or_or, q_or_then, q_or_in, q_or_p, q_then_halt, q_then_drop, q_then_pass, q_then_test, q_then_not, q_then_again, q_then_or, q_then_then, q_then_in, q_then_p, q_again_halt, q_again_drop, q_again_pass, q_again_test, q_again_not, q_again_again, q_again_or, q_again_then, q_again_in, q_again_p, q_not_halt, q_not_drop, q_not_pass, q_not_test, q_not_not, q_not_again, q_not_or, q_not_then, q_not_in, q_not_p, gl_DROP, gl_PASS, gl_TEST, gl_PUT, gl_HALT, gl_OR, gl_THEN, gl_AGAIN, gl_NOT, gl_PARTS, gl_MOST_STATES, atI_0, atI_1, atI_2, P50.f_told_table, Po.d, hf.1, hf.2, ha.1, ha.2]
      refine (s_told_table hF k a _ _ (by omega) hp h0).mono ?_
      rintro d μ1 ⟨hμ, h1⟩
      subst hμ
      have h1' := Tab.fz _ h1
      simp_arith [q_drop_halt, q_drop_drop, q_drop_pass, q_drop_test, q_drop_not, q_drop_again, q_drop_or, q_drop_then, q_drop_in, q_drop_p, q_pass_halt, q_pass_drop, q_pass_pass, q_pass_test, q_pass_not, q_pass_again, q_pass_or, q_pass_then, q_pass_in, q_pass_p, q_test_halt, q_test_drop, q_test_pass, q_test_test, q_test_not, q_test_again, q_test_or, q_test_then, q_test_in, q_test_p, q_put_halt, q_put_drop, q_put_pass, q_put_test, q_put_not, q_put_again, q_put_or, q_put_then, q_put_in, q_put_p, q_halt_halt, q_halt_drop, q_halt_pass, q_halt_test, q_halt_not, q_halt_again, q_halt_or, q_halt_then, q_halt_in, q_halt_p, q_or_halt, q_or_drop, q_or_pass, q_or_test, q_or_not, q_or_again, q_or_or, q_or_then, q_or_in, q_or_p, q_then_halt, q_then_drop, q_then_pass, q_then_test, q_then_not, q_then_again, q_then_or, q_then_then, q_then_in, q_then_p, q_again_halt, q_again_drop, q_again_pass, q_again_test, q_again_not, q_again_again, q_again_or, q_again_then, q_again_in, q_again_p, q_not_halt, q_not_drop, q_not_pass, q_not_test, q_not_not, q_not_again, q_not_or, q_not_then, q_not_in, q_not_p, gl_DROP, gl_PASS, gl_TEST, gl_PUT, gl_HALT, gl_OR, gl_THEN, gl_AGAIN, gl_NOT, gl_PARTS, gl_MOST_STATES, atI_0, atI_1, atI_2, ha.1, ha.2, hf.1, hf.2, h1'.1, h1'.2]
      refine (s_table_again (by omega) hn h1).mono ?_
      rintro d μ1 ⟨hμ, h⟩
      subst hμ; simp_arith [q_drop_halt, q_drop_drop, q_drop_pass, q_drop_test, q_drop_not, q_drop_again, q_drop_or, q_drop_then, q_drop_in, q_drop_p, q_pass_halt, q_pass_drop, q_pass_pass, q_pass_test, q_pass_not, q_pass_again, q_pass_or, q_pass_then, q_pass_in, q_pass_p, q_test_halt, q_test_drop, q_test_pass, q_test_test, q_test_not, q_test_again, q_test_or, q_test_then, q_test_in, q_test_p, q_put_halt, q_put_drop, q_put_pass, q_put_test, q_put_not, q_put_again, q_put_or, q_put_then, q_put_in, q_put_p, q_halt_halt, q_halt_drop, q_halt_pass, q_halt_test, q_halt_not, q_halt_again, q_halt_or, q_halt_then, q_halt_in, q_halt_p, q_or_halt, q_or_drop, q_or_pass, q_or_test, q_or_not, q_or_again, q_or_or, q_or_then, q_or_in, q_or_p, q_then_halt, q_then_drop, q_then_pass, q_then_test, q_then_not, q_then_again, q_then_or, q_then_then, q_then_in, q_then_p, q_again_halt, q_again_drop, q_again_pass, q_again_test, q_again_not, q_again_again, q_again_or, q_again_then, q_again_in, q_again_p, q_not_halt, q_not_drop, q_not_pass, q_not_test, q_not_not, q_not_again, q_not_or, q_not_then, q_not_in, q_not_p, gl_DROP, gl_PASS, gl_TEST, gl_PUT, gl_HALT, gl_OR, gl_THEN, gl_AGAIN, gl_NOT, gl_PARTS, gl_MOST_STATES, atI_0, atI_1, atI_2, h]
    | or a b =>
      have ha := a.fz
      have hb := b.fz
      simp only [Po.sz, Po.hs, Po.Ok] at h hp h0
      simp_arith [q_drop_halt, q_drop_drop, q_drop_pass, q_drop_test, q_drop_not, q_drop_again, q_drop_or, q_drop_then, q_drop_in, q_drop_p, q_pass_halt, q_pass_drop, q_pass_pass, q_pass_test, q_pass_not, q_pass_again, q_pass_or, q_pass_then, q_pass_in, q_pass_p, q_test_halt, q_test_drop, q_test_pass, q_test_test, q_test_not, q_test_again, q_test_or, q_test_then, q_test_in, q_test_p, q_put_halt, q_put_drop, q_put_pass, q_put_test, q_put_not, q_put_again, q_put_or, q_put_then, q_put_in, q_put_p, q_halt_halt, q_halt_drop, q_halt_pass, q_halt_test, q_halt_not, q_halt_again, q_halt_or, q_halt_then, q_halt_in, q_halt_p, q_or_halt, q_or_drop, q_or_pass, q_or_test, q_or_not, q_or_again, q_or_or, q_or_then, q_or_in, q_or_p, q_then_halt, q_then_drop, q_then_pass, q_then_test, q_then_not, q_then_again, q_then_or, q_then_then, q_then_in, q_then_p, q_again_halt, q_again_drop, q_again_pass, q_again_test, q_again_not, q_again_again, q_again_or, q_again_then, q_again_in, q_again_p, q_not_halt, q_not_drop, q_not_pass, q_not_test, q_not_not, q_not_again, q_not_or, q_not_then, q_not_in, q_not_p, gl_DROP, gl_PASS, gl_TEST, gl_PUT, gl_HALT, gl_OR, gl_THEN, gl_AGAIN, gl_NOT, gl_PARTS, gl_MOST_STATES, atI_0, atI_1, atI_2, P50.f_told_table, Po.d, hf.1, hf.2, ha.1, ha.2, hb.1, hb.2]
      refine (s_told_table hF k a _ _ (by omega) hp.1 (by omega)).mono ?_
      rintro d μ1 ⟨hμ, h1⟩
      subst hμ
      have h1' := Tab.fz _ h1
      simp_arith [q_drop_halt, q_drop_drop, q_drop_pass, q_drop_test, q_drop_not, q_drop_again, q_drop_or, q_drop_then, q_drop_in, q_drop_p, q_pass_halt, q_pass_drop, q_pass_pass, q_pass_test, q_pass_not, q_pass_again, q_pass_or, q_pass_then, q_pass_in, q_pass_p, q_test_halt, q_test_drop, q_test_pass, q_test_test, q_test_not, q_test_again, q_test_or, q_test_then, q_test_in, q_test_p, q_put_halt, q_put_drop, q_put_pass, q_put_test, q_put_not, q_put_again, q_put_or, q_put_then, q_put_in, q_put_p, q_halt_halt, q_halt_drop, q_halt_pass, q_halt_test, q_halt_not, q_halt_again, q_halt_or, q_halt_then, q_halt_in, q_halt_p, q_or_halt, q_or_drop, q_or_pass, q_or_test, q_or_not, q_or_again, q_or_or, q_or_then, q_or_in, q_or_p, q_then_halt, q_then_drop, q_then_pass, q_then_test, q_then_not, q_then_again, q_then_or, q_then_then, q_then_in, q_then_p, q_again_halt, q_again_drop, q_again_pass, q_again_test, q_again_not, q_again_again, q_again_or, q_again_then, q_again_in, q_again_p, q_not_halt, q_not_drop, q_not_pass, q_not_test, q_not_not, q_not_again, q_not_or, q_not_then, q_not_in, q_not_p, gl_DROP, gl_PASS, gl_TEST, gl_PUT, gl_HALT, gl_OR, gl_THEN, gl_AGAIN, gl_NOT, gl_PARTS, gl_MOST_STATES, atI_0, atI_1, atI_2, ha.1, ha.2, hb.1, hb.2, hf.1, hf.2, h1'.1, h1'.2]
      refine (s_told_table hF k b _ _ (by omega) hp.2 (by omega)).mono ?_
      rintro d2 μ1 ⟨hμ, h2⟩
      subst hμ
      have h2' := Tab.fz _ h2
      simp_arith [q_drop_halt, q_drop_drop, q_drop_pass, q_drop_test, q_drop_not, q_drop_again, q_drop_or, q_drop_then, q_drop_in, q_drop_p, q_pass_halt, q_pass_drop, q_pass_pass, q_pass_test, q_pass_not, q_pass_again, q_pass_or, q_pass_then, q_pass_in, q_pass_p, q_test_halt, q_test_drop, q_test_pass, q_test_test, q_test_not, q_test_again, q_test_or, q_test_then, q_test_in, q_test_p, q_put_halt, q_put_drop, q_put_pass, q_put_test, q_put_not, q_put_again, q_put_or, q_put_then, q_put_in, q_put_p, q_halt_halt, q_halt_drop, q_halt_pass, q_halt_test, q_halt_not, q_halt_again, q_halt_or, q_halt_then, q_halt_in, q_halt_p, q_or_halt, q_or_drop, q_or_pass, q_or_test, q_or_not, q_or_again, q_or_or, q_or_then, q_or_in, q_or_p, q_then_halt, q_then_drop, q_then_pass, q_then_test, q_then_not, q_then_again, q_then_or, q_then_then, q_then_in, q_then_p, q_again_halt, q_again_drop, q_again_pass, q_again_test, q_again_not, q_again_again, q_again_or, q_again_then, q_again_in, q_again_p, q_not_halt, q_not_drop, q_not_pass, q_not_test, q_not_not, q_not_again, q_not_or, q_not_then, q_not_in, q_not_p, gl_DROP, gl_PASS, gl_TEST, gl_PUT, gl_HALT, gl_OR, gl_THEN, gl_AGAIN, gl_NOT, gl_PARTS, gl_MOST_STATES, atI_0, atI_1, atI_2, ha.1, ha.2, hb.1, hb.2, hf.1, hf.2, h1'.1, h1'.2, h2'.1, h2'.2]
      refine (s_table_or (by omega) hn h1 h2).mono ?_
      rintro d μ1 ⟨hμ, h⟩
      subst hμ; simp_arith [q_drop_halt, q_drop_drop, q_drop_pass, q_drop_test, q_drop_not, q_drop_again, q_drop_or, q_drop_then, q_drop_in, q_drop_p, q_pass_halt, q_pass_drop, q_pass_pass, q_pass_test, q_pass_not, q_pass_again, q_pass_or, q_pass_then, q_pass_in, q_pass_p, q_test_halt, q_test_drop, q_test_pass, q_test_test, q_test_not, q_test_again, q_test_or, q_test_then, q_test_in, q_test_p, q_put_halt, q_put_drop, q_put_pass, q_put_test, q_put_not, q_put_again, q_put_or, q_put_then, q_put_in, q_put_p, q_halt_halt, q_halt_drop, q_halt_pass, q_halt_test, q_halt_not, q_halt_again, q_halt_or, q_halt_then, q_halt_in, q_halt_p, q_or_halt, q_or_drop, q_or_pass, q_or_test, q_or_not, q_or_again, q_or_or, q_or_then, q_or_in, q_or_p, q_then_halt, q_then_drop, q_then_pass, q_then_test, q_then_not, q_then_again, q_then_or, q_then_then, q_then_in, q_then_p, q_again_halt, q_again_drop, q_again_pass, q_again_test, q_again_not, q_again_again, q_again_or, q_again_then, q_again_in, q_again_p, q_not_halt, q_not_drop, q_not_pass, q_not_test, q_not_not, q_not_again, q_not_or, q_not_then, q_not_in, q_not_p, gl_DROP, gl_PASS, gl_TEST, gl_PUT, gl_HALT, gl_OR, gl_THEN, gl_AGAIN, gl_NOT, gl_PARTS, gl_MOST_STATES, atI_0, atI_1, atI_2, h]
    | thn a b =>
      have ha := a.fz
      have hb := b.fz
      simp only [Po.sz, Po.hs, Po.Ok] at h hp h0
      simp_arith [q_drop_halt, q_drop_drop, q_drop_pass, q_drop_test, q_drop_not, q_drop_again, q_drop_or, q_drop_then, q_drop_in, q_drop_p, q_pass_halt, q_pass_drop, q_pass_pass, q_pass_test, q_pass_not, q_pass_again, q_pass_or, q_pass_then, q_pass_in, q_pass_p, q_test_halt, q_test_drop, q_test_pass, q_test_test, q_test_not, q_test_again, q_test_or, q_test_then, q_test_in, q_test_p, q_put_halt, q_put_drop, q_put_pass, q_put_test, q_put_not, q_put_again, q_put_or, q_put_then, q_put_in, q_put_p, q_halt_halt, q_halt_drop, q_halt_pass, q_halt_test, q_halt_not, q_halt_again, q_halt_or, q_halt_then, q_halt_in, q_halt_p, q_or_halt, q_or_drop, q_or_pass, q_or_test, q_or_not, q_or_again, q_or_or, q_or_then, q_or_in, q_or_p, q_then_halt, q_then_drop, q_then_pass, q_then_test, q_then_not, q_then_again, q_then_or, q_then_then, q_then_in, q_then_p, q_again_halt, q_again_drop, q_again_pass, q_again_test, q_again_not, q_again_again, q_again_or, q_again_then, q_again_in, q_again_p, q_not_halt, q_not_drop, q_not_pass, q_not_test, q_not_not, q_not_again, q_not_or, q_not_then, q_not_in, q_not_p, gl_DROP, gl_PASS, gl_TEST, gl_PUT, gl_HALT, gl_OR, gl_THEN, gl_AGAIN, gl_NOT, gl_PARTS, gl_MOST_STATES, atI_0, atI_1, atI_2, P50.f_told_table, Po.d, hf.1, hf.2, ha.1, ha.2, hb.1, hb.2]
      refine (s_told_table hF k a _ _ (by omega) hp.1 (by omega)).mono ?_
      rintro d μ1 ⟨hμ, h1⟩
      subst hμ
      have h1' := Tab.fz _ h1
      simp_arith [q_drop_halt, q_drop_drop, q_drop_pass, q_drop_test, q_drop_not, q_drop_again, q_drop_or, q_drop_then, q_drop_in, q_drop_p, q_pass_halt, q_pass_drop, q_pass_pass, q_pass_test, q_pass_not, q_pass_again, q_pass_or, q_pass_then, q_pass_in, q_pass_p, q_test_halt, q_test_drop, q_test_pass, q_test_test, q_test_not, q_test_again, q_test_or, q_test_then, q_test_in, q_test_p, q_put_halt, q_put_drop, q_put_pass, q_put_test, q_put_not, q_put_again, q_put_or, q_put_then, q_put_in, q_put_p, q_halt_halt, q_halt_drop, q_halt_pass, q_halt_test, q_halt_not, q_halt_again, q_halt_or, q_halt_then, q_halt_in, q_halt_p, q_or_halt, q_or_drop, q_or_pass, q_or_test, q_or_not, q_or_again, q_or_or, q_or_then, q_or_in, q_or_p, q_then_halt, q_then_drop, q_then_pass, q_then_test, q_then_not, q_then_again, q_then_or, q_then_then, q_then_in, q_then_p, q_again_halt, q_again_drop, q_again_pass, q_again_test, q_again_not, q_again_again, q_again_or, q_again_then, q_again_in, q_again_p, q_not_halt, q_not_drop, q_not_pass, q_not_test, q_not_not, q_not_again, q_not_or, q_not_then, q_not_in, q_not_p, gl_DROP, gl_PASS, gl_TEST, gl_PUT, gl_HALT, gl_OR, gl_THEN, gl_AGAIN, gl_NOT, gl_PARTS, gl_MOST_STATES, atI_0, atI_1, atI_2, ha.1, ha.2, hb.1, hb.2, hf.1, hf.2, h1'.1, h1'.2]
      refine (s_told_table hF k b _ _ (by omega) hp.2 (by omega)).mono ?_
      rintro d2 μ1 ⟨hμ, h2⟩
      subst hμ
      have h2' := Tab.fz _ h2
      simp_arith [q_drop_halt, q_drop_drop, q_drop_pass, q_drop_test, q_drop_not, q_drop_again, q_drop_or, q_drop_then, q_drop_in, q_drop_p, q_pass_halt, q_pass_drop, q_pass_pass, q_pass_test, q_pass_not, q_pass_again, q_pass_or, q_pass_then, q_pass_in, q_pass_p, q_test_halt, q_test_drop, q_test_pass, q_test_test, q_test_not, q_test_again, q_test_or, q_test_then, q_test_in, q_test_p, q_put_halt, q_put_drop, q_put_pass, q_put_test, q_put_not, q_put_again, q_put_or, q_put_then, q_put_in, q_put_p, q_halt_halt, q_halt_drop, q_halt_pass, q_halt_test, q_halt_not, q_halt_again, q_halt_or, q_halt_then, q_halt_in, q_halt_p, q_or_halt, q_or_drop, q_or_pass, q_or_test, q_or_not, q_or_again, q_or_or, q_or_then, q_or_in, q_or_p, q_then_halt, q_then_drop, q_then_pass, q_then_test, q_then_not, q_then_again, q_then_or, q_then_then, q_then_in, q_then_p, q_again_halt, q_again_drop, q_again_pass, q_again_test, q_again_not, q_again_again, q_again_or, q_again_then, q_again_in, q_again_p, q_not_halt, q_not_drop, q_not_pass, q_not_test, q_not_not, q_not_again, q_not_or, q_not_then, q_not_in, q_not_p, gl_DROP, gl_PASS, gl_TEST, gl_PUT, gl_HALT, gl_OR, gl_THEN, gl_AGAIN, gl_NOT, gl_PARTS, gl_MOST_STATES, atI_0, atI_1, atI_2, ha.1, ha.2, hb.1, hb.2, hf.1, hf.2, h1'.1, h1'.2, h2'.1, h2'.2]
      refine (s_table_then (by omega) hn h1 h2).mono ?_
      rintro d μ1 ⟨hμ, h⟩
      subst hμ; simp_arith [q_drop_halt, q_drop_drop, q_drop_pass, q_drop_test, q_drop_not, q_drop_again, q_drop_or, q_drop_then, q_drop_in, q_drop_p, q_pass_halt, q_pass_drop, q_pass_pass, q_pass_test, q_pass_not, q_pass_again, q_pass_or, q_pass_then, q_pass_in, q_pass_p, q_test_halt, q_test_drop, q_test_pass, q_test_test, q_test_not, q_test_again, q_test_or, q_test_then, q_test_in, q_test_p, q_put_halt, q_put_drop, q_put_pass, q_put_test, q_put_not, q_put_again, q_put_or, q_put_then, q_put_in, q_put_p, q_halt_halt, q_halt_drop, q_halt_pass, q_halt_test, q_halt_not, q_halt_again, q_halt_or, q_halt_then, q_halt_in, q_halt_p, q_or_halt, q_or_drop, q_or_pass, q_or_test, q_or_not, q_or_again, q_or_or, q_or_then, q_or_in, q_or_p, q_then_halt, q_then_drop, q_then_pass, q_then_test, q_then_not, q_then_again, q_then_or, q_then_then, q_then_in, q_then_p, q_again_halt, q_again_drop, q_again_pass, q_again_test, q_again_not, q_again_again, q_again_or, q_again_then, q_again_in, q_again_p, q_not_halt, q_not_drop, q_not_pass, q_not_test, q_not_not, q_not_again, q_not_or, q_not_then, q_not_in, q_not_p, gl_DROP, gl_PASS, gl_TEST, gl_PUT, gl_HALT, gl_OR, gl_THEN, gl_AGAIN, gl_NOT, gl_PARTS, gl_MOST_STATES, atI_0, atI_1, atI_2, h]
theorem s_told_machine {F : D} {ws : List Nat} (hF : Fd F ws) : ∀ (k : Nat) (p : Po) (μ : Sto) (X : Str → List D → Sto → Prop), p.sz + 12 ≤ k → p.Ok ws → p.hs ≤ 30 → Wp (run pp k (Str.ofString "told_machine") [F, p.d]) μ (Pu (Mch (prd ws) p.hs) μ) X
  | 0, p, _, _, h, _, _ => by omega
  | k + 1, p, μ, X, h, hp, h0 => by
    have hn : prd ws ≤ 16 := by cases hF <;> decide
    have hf : F.nb = true ∧ F.fz = F := by cases hF <;> exact ⟨rfl, rfl⟩
    have hz := p.fz
    rw [e_told_machine]
    simp_arith [q_drop_halt, q_drop_drop, q_drop_pass, q_drop_test, q_drop_not, q_drop_again, q_drop_or, q_drop_then, q_drop_in, q_drop_p, q_pass_halt, q_pass_drop, q_pass_pass, q_pass_test, q_pass_not, q_pass_again, q_pass_or, q_pass_then, q_pass_in, q_pass_p, q_test_halt, q_test_drop, q_test_pass, q_test_test, q_test_not, q_test_again, q_test_or, q_test_then, q_test_in, q_test_p, q_put_halt, q_put_drop, q_put_pass, q_put_test, q_put_not, q_put_again, q_put_or, q_put_then, q_put_in, q_put_p, q_halt_halt, q_halt_drop, q_halt_pass, q_halt_test, q_halt_not, q_halt_again, q_halt_or, q_halt_then, q_halt_in, q_halt_p, q_or_halt, q_or_drop, q_or_pass, q_or_test, q_or_not, q_or_again, q_or_or, q_or_then, q_or_in, q_or_p, q_then_halt, q_then_drop, q_then_pass, q_then_test, q_then_not, q_then_again, q_then_or, q_then_then, q_then_in, q_then_p, q_again_halt, q_again_drop, q_again_pass, q_again_test, q_again_not, q_again_again, q_again_or, q_again_then, q_again_in, q_again_p, q_not_halt, q_not_drop, q_not_pass, q_not_test, q_not_not, q_not_again, q_not_or, q_not_then, q_not_in, q_not_p, gl_DROP, gl_PASS, gl_TEST, gl_PUT, gl_HALT, gl_OR, gl_THEN, gl_AGAIN, gl_NOT, gl_PARTS, gl_MOST_STATES, atI_0, atI_1, atI_2, P50.f_told_machine, hf.1, hf.2, hz.1, hz.2]
    refine (s_has_halt k p _ _ (by omega)).mono ?_
    rintro d μ1 ⟨hμ, h1⟩
    subst hμ; subst h1
    by_cases hh : p.hs = 0
    · simp only [hh, Nat.lt_irrefl, decide_false]
      simp_arith [q_drop_halt, q_drop_drop, q_drop_pass, q_drop_test, q_drop_not, q_drop_again, q_drop_or, q_drop_then, q_drop_in, q_drop_p, q_pass_halt, q_pass_drop, q_pass_pass, q_pass_test, q_pass_not, q_pass_again, q_pass_or, q_pass_then, q_pass_in, q_pass_p, q_test_halt, q_test_drop, q_test_pass, q_test_test, q_test_not, q_test_again, q_test_or, q_test_then, q_test_in, q_test_p, q_put_halt, q_put_drop, q_put_pass, q_put_test, q_put_not, q_put_again, q_put_or, q_put_then, q_put_in, q_put_p, q_halt_halt, q_halt_drop, q_halt_pass, q_halt_test, q_halt_not, q_halt_again, q_halt_or, q_halt_then, q_halt_in, q_halt_p, q_or_halt, q_or_drop, q_or_pass, q_or_test, q_or_not, q_or_again, q_or_or, q_or_then, q_or_in, q_or_p, q_then_halt, q_then_drop, q_then_pass, q_then_test, q_then_not, q_then_again, q_then_or, q_then_then, q_then_in, q_then_p, q_again_halt, q_again_drop, q_again_pass, q_again_test, q_again_not, q_again_again, q_again_or, q_again_then, q_again_in, q_again_p, q_not_halt, q_not_drop, q_not_pass, q_not_test, q_not_not, q_not_again, q_not_or, q_not_then, q_not_in, q_not_p, gl_DROP, gl_PASS, gl_TEST, gl_PUT, gl_HALT, gl_OR, gl_THEN, gl_AGAIN, gl_NOT, gl_PARTS, gl_MOST_STATES, atI_0, atI_1, atI_2, hf.1, hf.2, hz.1, hz.2]
      refine (s_told_table hF k p _ _ (by omega) hp hh).mono ?_
      rintro d μ1 ⟨hμ, h1⟩
      subst hμ
      try simp_arith [q_drop_halt, q_drop_drop, q_drop_pass, q_drop_test, q_drop_not, q_drop_again, q_drop_or, q_drop_then, q_drop_in, q_drop_p, q_pass_halt, q_pass_drop, q_pass_pass, q_pass_test, q_pass_not, q_pass_again, q_pass_or, q_pass_then, q_pass_in, q_pass_p, q_test_halt, q_test_drop, q_test_pass, q_test_test, q_test_not, q_test_again, q_test_or, q_test_then, q_test_in, q_test_p, q_put_halt, q_put_drop, q_put_pass, q_put_test, q_put_not, q_put_again, q_put_or, q_put_then, q_put_in, q_put_p, q_halt_halt, q_halt_drop, q_halt_pass, q_halt_test, q_halt_not, q_halt_again, q_halt_or, q_halt_then, q_halt_in, q_halt_p, q_or_halt, q_or_drop, q_or_pass, q_or_test, q_or_not, q_or_again, q_or_or, q_or_then, q_or_in, q_or_p, q_then_halt, q_then_drop, q_then_pass, q_then_test, q_then_not, q_then_again, q_then_or, q_then_then, q_then_in, q_then_p, q_again_halt, q_again_drop, q_again_pass, q_again_test, q_again_not, q_again_again, q_again_or, q_again_then, q_again_in, q_again_p, q_not_halt, q_not_drop, q_not_pass, q_not_test, q_not_not, q_not_again, q_not_or, q_not_then, q_not_in, q_not_p, gl_DROP, gl_PASS, gl_TEST, gl_PUT, gl_HALT, gl_OR, gl_THEN, gl_AGAIN, gl_NOT, gl_PARTS, gl_MOST_STATES, atI_0, atI_1, atI_2]
      refine (s_machine_of_table (by omega) hn h1).mono ?_
      rintro d μ1 ⟨hμ, h1⟩
      subst hμ
      simp_arith [q_drop_halt, q_drop_drop, q_drop_pass, q_drop_test, q_drop_not, q_drop_again, q_drop_or, q_drop_then, q_drop_in, q_drop_p, q_pass_halt, q_pass_drop, q_pass_pass, q_pass_test, q_pass_not, q_pass_again, q_pass_or, q_pass_then, q_pass_in, q_pass_p, q_test_halt, q_test_drop, q_test_pass, q_test_test, q_test_not, q_test_again, q_test_or, q_test_then, q_test_in, q_test_p, q_put_halt, q_put_drop, q_put_pass, q_put_test, q_put_not, q_put_again, q_put_or, q_put_then, q_put_in, q_put_p, q_halt_halt, q_halt_drop, q_halt_pass, q_halt_test, q_halt_not, q_halt_again, q_halt_or, q_halt_then, q_halt_in, q_halt_p, q_or_halt, q_or_drop, q_or_pass, q_or_test, q_or_not, q_or_again, q_or_or, q_or_then, q_or_in, q_or_p, q_then_halt, q_then_drop, q_then_pass, q_then_test, q_then_not, q_then_again, q_then_or, q_then_then, q_then_in, q_then_p, q_again_halt, q_again_drop, q_again_pass, q_again_test, q_again_not, q_again_again, q_again_or, q_again_then, q_again_in, q_again_p, q_not_halt, q_not_drop, q_not_pass, q_not_test, q_not_not, q_not_again, q_not_or, q_not_then, q_not_in, q_not_p, gl_DROP, gl_PASS, gl_TEST, gl_PUT, gl_HALT, gl_OR, gl_THEN, gl_AGAIN, gl_NOT, gl_PARTS, gl_MOST_STATES, atI_0, atI_1, atI_2, h1]
    · simp only [Nat.pos_of_ne_zero hh, decide_true]
      cases p with
      | drop => simp [Po.hs] at hh
      | pass => simp [Po.hs] at hh
      | test f w => simp [Po.hs] at hh
      | put f w => simp [Po.hs] at hh
      | halt =>
        simp_arith [q_drop_halt, q_drop_drop, q_drop_pass, q_drop_test, q_drop_not, q_drop_again, q_drop_or, q_drop_then, q_drop_in, q_drop_p, q_pass_halt, q_pass_drop, q_pass_pass, q_pass_test, q_pass_not, q_pass_again, q_pass_or, q_pass_then, q_pass_in, q_pass_p, q_test_halt, q_test_drop, q_test_pass, q_test_test, q_test_not, q_test_again, q_test_or, q_test_then, q_test_in, q_test_p, q_put_halt, q_put_drop, q_put_pass, q_put_test, q_put_not, q_put_again, q_put_or, q_put_then, q_put_in, q_put_p, q_halt_halt, q_halt_drop, q_halt_pass, q_halt_test, q_halt_not, q_halt_again, q_halt_or, q_halt_then, q_halt_in, q_halt_p, q_or_halt, q_or_drop, q_or_pass, q_or_test, q_or_not, q_or_again, q_or_or, q_or_then, q_or_in, q_or_p, q_then_halt, q_then_drop, q_then_pass, q_then_test, q_then_not, q_then_again, q_then_or, q_then_then, q_then_in, q_then_p, q_again_halt, q_again_drop, q_again_pass, q_again_test, q_again_not, q_again_again, q_again_or, q_again_then, q_again_in, q_again_p, q_not_halt, q_not_drop, q_not_pass, q_not_test, q_not_not, q_not_again, q_not_or, q_not_then, q_not_in, q_not_p, gl_DROP, gl_PASS, gl_TEST, gl_PUT, gl_HALT, gl_OR, gl_THEN, gl_AGAIN, gl_NOT, gl_PARTS, gl_MOST_STATES, atI_0, atI_1, atI_2, Po.d, hf.1, hf.2]
        refine Wp.of_ok (by
          have := ccount_parcels hF (k - 4) μ1
          rwa [show k - 4 + 4 = k by simp [Po.sz] at h; omega] at this) ?_
        simp_arith [q_drop_halt, q_drop_drop, q_drop_pass, q_drop_test, q_drop_not, q_drop_again, q_drop_or, q_drop_then, q_drop_in, q_drop_p, q_pass_halt, q_pass_drop, q_pass_pass, q_pass_test, q_pass_not, q_pass_again, q_pass_or, q_pass_then, q_pass_in, q_pass_p, q_test_halt, q_test_drop, q_test_pass, q_test_test, q_test_not, q_test_again, q_test_or, q_test_then, q_test_in, q_test_p, q_put_halt, q_put_drop, q_put_pass, q_put_test, q_put_not, q_put_again, q_put_or, q_put_then, q_put_in, q_put_p, q_halt_halt, q_halt_drop, q_halt_pass, q_halt_test, q_halt_not, q_halt_again, q_halt_or, q_halt_then, q_halt_in, q_halt_p, q_or_halt, q_or_drop, q_or_pass, q_or_test, q_or_not, q_or_again, q_or_or, q_or_then, q_or_in, q_or_p, q_then_halt, q_then_drop, q_then_pass, q_then_test, q_then_not, q_then_again, q_then_or, q_then_then, q_then_in, q_then_p, q_again_halt, q_again_drop, q_again_pass, q_again_test, q_again_not, q_again_again, q_again_or, q_again_then, q_again_in, q_again_p, q_not_halt, q_not_drop, q_not_pass, q_not_test, q_not_not, q_not_again, q_not_or, q_not_then, q_not_in, q_not_p, gl_DROP, gl_PASS, gl_TEST, gl_PUT, gl_HALT, gl_OR, gl_THEN, gl_AGAIN, gl_NOT, gl_PARTS, gl_MOST_STATES, atI_0, atI_1, atI_2]
        refine (s_halt_machine (by omega) hn).mono ?_
        rintro d μ1 ⟨hμ, h1⟩
        subst hμ
        simp_arith [q_drop_halt, q_drop_drop, q_drop_pass, q_drop_test, q_drop_not, q_drop_again, q_drop_or, q_drop_then, q_drop_in, q_drop_p, q_pass_halt, q_pass_drop, q_pass_pass, q_pass_test, q_pass_not, q_pass_again, q_pass_or, q_pass_then, q_pass_in, q_pass_p, q_test_halt, q_test_drop, q_test_pass, q_test_test, q_test_not, q_test_again, q_test_or, q_test_then, q_test_in, q_test_p, q_put_halt, q_put_drop, q_put_pass, q_put_test, q_put_not, q_put_again, q_put_or, q_put_then, q_put_in, q_put_p, q_halt_halt, q_halt_drop, q_halt_pass, q_halt_test, q_halt_not, q_halt_again, q_halt_or, q_halt_then, q_halt_in, q_halt_p, q_or_halt, q_or_drop, q_or_pass, q_or_test, q_or_not, q_or_again, q_or_or, q_or_then, q_or_in, q_or_p, q_then_halt, q_then_drop, q_then_pass, q_then_test, q_then_not, q_then_again, q_then_or, q_then_then, q_then_in, q_then_p, q_again_halt, q_again_drop, q_again_pass, q_again_test, q_again_not, q_again_again, q_again_or, q_again_then, q_again_in, q_again_p, q_not_halt, q_not_drop, q_not_pass, q_not_test, q_not_not, q_not_again, q_not_or, q_not_then, q_not_in, q_not_p, gl_DROP, gl_PASS, gl_TEST, gl_PUT, gl_HALT, gl_OR, gl_THEN, gl_AGAIN, gl_NOT, gl_PARTS, gl_MOST_STATES, atI_0, atI_1, atI_2, h1, Po.hs]
      | not a =>
        have ha := a.fz
        simp only [Po.sz, Po.hs, Po.Ok] at h hp h0
        simp_arith [q_drop_halt, q_drop_drop, q_drop_pass, q_drop_test, q_drop_not, q_drop_again, q_drop_or, q_drop_then, q_drop_in, q_drop_p, q_pass_halt, q_pass_drop, q_pass_pass, q_pass_test, q_pass_not, q_pass_again, q_pass_or, q_pass_then, q_pass_in, q_pass_p, q_test_halt, q_test_drop, q_test_pass, q_test_test, q_test_not, q_test_again, q_test_or, q_test_then, q_test_in, q_test_p, q_put_halt, q_put_drop, q_put_pass, q_put_test, q_put_not, q_put_again, q_put_or, q_put_then, q_put_in, q_put_p, q_halt_halt, q_halt_drop, q_halt_pass, q_halt_test, q_halt_not, q_halt_again, q_halt_or, q_halt_then, q_halt_in, q_halt_p, q_or_halt, q_or_drop, q_or_pass, q_or_test, q_or_not, q_or_again, q_or_or, q_or_then, q_or_in, q_or_p, q_then_halt, q_then_drop, q_then_pass, q_then_test, q_then_not, q_then_again, q_then_or, q_then_then, q_then_in, q_then_p, q_again_halt, q_again_drop, q_again_pass, q_again_test, q_again_not, q_again_again, q_again_or, q_again_then, q_again_in, q_again_p, q_not_halt, q_not_drop, q_not_pass, q_not_test, q_not_not, q_not_again, q_not_or, q_not_then, q_not_in, q_not_p, gl_DROP, gl_PASS, gl_TEST, gl_PUT, gl_HALT, gl_OR, gl_THEN, gl_AGAIN, gl_NOT, gl_PARTS, gl_MOST_STATES, atI_0, atI_1, atI_2, Po.d, hf.1, hf.2, ha.1, ha.2]
        refine (s_told_machine hF k a _ _ (by omega) hp h0).mono ?_
        rintro d μ1 ⟨hμ, h1⟩
        subst hμ
        have h1' := Mch.fz _ h1
        simp_arith [q_drop_halt, q_drop_drop, q_drop_pass, q_drop_test, q_drop_not, q_drop_again, q_drop_or, q_drop_then, q_drop_in, q_drop_p, q_pass_halt, q_pass_drop, q_pass_pass, q_pass_test, q_pass_not, q_pass_again, q_pass_or, q_pass_then, q_pass_in, q_pass_p, q_test_halt, q_test_drop, q_test_pass, q_test_test, q_test_not, q_test_again, q_test_or, q_test_then, q_test_in, q_test_p, q_put_halt, q_put_drop, q_put_pass, q_put_test, q_put_not, q_put_again, q_put_or, q_put_then, q_put_in, q_put_p, q_halt_halt, q_halt_drop, q_halt_pass, q_halt_test, q_halt_not, q_halt_again, q_halt_or, q_halt_then, q_halt_in, q_halt_p, q_or_halt, q_or_drop, q_or_pass, q_or_test, q_or_not, q_or_again, q_or_or, q_or_then, q_or_in, q_or_p, q_then_halt, q_then_drop, q_then_pass, q_then_test, q_then_not, q_then_again, q_then_or, q_then_then, q_then_in, q_then_p, q_again_halt, q_again_drop, q_again_pass, q_again_test, q_again_not, q_again_again, q_again_or, q_again_then, q_again_in, q_again_p, q_not_halt, q_not_drop, q_not_pass, q_not_test, q_not_not, q_not_again, q_not_or, q_not_then, q_not_in, q_not_p, gl_DROP, gl_PASS, gl_TEST, gl_PUT, gl_HALT, gl_OR, gl_THEN, gl_AGAIN, gl_NOT, gl_PARTS, gl_MOST_STATES, atI_0, atI_1, atI_2, ha.1, ha.2, hf.1, hf.2, h1'.1, h1'.2]
        refine (s_machine_again (by omega) hn h0 h1).mono ?_
        rintro d μ1 ⟨hμ, h⟩
        subst hμ; simp_arith [q_drop_halt, q_drop_drop, q_drop_pass, q_drop_test, q_drop_not, q_drop_again, q_drop_or, q_drop_then, q_drop_in, q_drop_p, q_pass_halt, q_pass_drop, q_pass_pass, q_pass_test, q_pass_not, q_pass_again, q_pass_or, q_pass_then, q_pass_in, q_pass_p, q_test_halt, q_test_drop, q_test_pass, q_test_test, q_test_not, q_test_again, q_test_or, q_test_then, q_test_in, q_test_p, q_put_halt, q_put_drop, q_put_pass, q_put_test, q_put_not, q_put_again, q_put_or, q_put_then, q_put_in, q_put_p, q_halt_halt, q_halt_drop, q_halt_pass, q_halt_test, q_halt_not, q_halt_again, q_halt_or, q_halt_then, q_halt_in, q_halt_p, q_or_halt, q_or_drop, q_or_pass, q_or_test, q_or_not, q_or_again, q_or_or, q_or_then, q_or_in, q_or_p, q_then_halt, q_then_drop, q_then_pass, q_then_test, q_then_not, q_then_again, q_then_or, q_then_then, q_then_in, q_then_p, q_again_halt, q_again_drop, q_again_pass, q_again_test, q_again_not, q_again_again, q_again_or, q_again_then, q_again_in, q_again_p, q_not_halt, q_not_drop, q_not_pass, q_not_test, q_not_not, q_not_again, q_not_or, q_not_then, q_not_in, q_not_p, gl_DROP, gl_PASS, gl_TEST, gl_PUT, gl_HALT, gl_OR, gl_THEN, gl_AGAIN, gl_NOT, gl_PARTS, gl_MOST_STATES, atI_0, atI_1, atI_2, h, Po.hs]
      | again a =>
        have ha := a.fz
        simp only [Po.sz, Po.hs, Po.Ok] at h hp h0
        simp_arith [q_drop_halt, q_drop_drop, q_drop_pass, q_drop_test, q_drop_not, q_drop_again, q_drop_or, q_drop_then, q_drop_in, q_drop_p, q_pass_halt, q_pass_drop, q_pass_pass, q_pass_test, q_pass_not, q_pass_again, q_pass_or, q_pass_then, q_pass_in, q_pass_p, q_test_halt, q_test_drop, q_test_pass, q_test_test, q_test_not, q_test_again, q_test_or, q_test_then, q_test_in, q_test_p, q_put_halt, q_put_drop, q_put_pass, q_put_test, q_put_not, q_put_again, q_put_or, q_put_then, q_put_in, q_put_p, q_halt_halt, q_halt_drop, q_halt_pass, q_halt_test, q_halt_not, q_halt_again, q_halt_or, q_halt_then, q_halt_in, q_halt_p, q_or_halt, q_or_drop, q_or_pass, q_or_test, q_or_not, q_or_again, q_or_or, q_or_then, q_or_in, q_or_p, q_then_halt, q_then_drop, q_then_pass, q_then_test, q_then_not, q_then_again, q_then_or, q_then_then, q_then_in, q_then_p, q_again_halt, q_again_drop, q_again_pass, q_again_test, q_again_not, q_again_again, q_again_or, q_again_then, q_again_in, q_again_p, q_not_halt, q_not_drop, q_not_pass, q_not_test, q_not_not, q_not_again, q_not_or, q_not_then, q_not_in, q_not_p, gl_DROP, gl_PASS, gl_TEST, gl_PUT, gl_HALT, gl_OR, gl_THEN, gl_AGAIN, gl_NOT, gl_PARTS, gl_MOST_STATES, atI_0, atI_1, atI_2, Po.d, hf.1, hf.2, ha.1, ha.2]
        refine (s_told_machine hF k a _ _ (by omega) hp h0).mono ?_
        rintro d μ1 ⟨hμ, h1⟩
        subst hμ
        have h1' := Mch.fz _ h1
        simp_arith [q_drop_halt, q_drop_drop, q_drop_pass, q_drop_test, q_drop_not, q_drop_again, q_drop_or, q_drop_then, q_drop_in, q_drop_p, q_pass_halt, q_pass_drop, q_pass_pass, q_pass_test, q_pass_not, q_pass_again, q_pass_or, q_pass_then, q_pass_in, q_pass_p, q_test_halt, q_test_drop, q_test_pass, q_test_test, q_test_not, q_test_again, q_test_or, q_test_then, q_test_in, q_test_p, q_put_halt, q_put_drop, q_put_pass, q_put_test, q_put_not, q_put_again, q_put_or, q_put_then, q_put_in, q_put_p, q_halt_halt, q_halt_drop, q_halt_pass, q_halt_test, q_halt_not, q_halt_again, q_halt_or, q_halt_then, q_halt_in, q_halt_p, q_or_halt, q_or_drop, q_or_pass, q_or_test, q_or_not, q_or_again, q_or_or, q_or_then, q_or_in, q_or_p, q_then_halt, q_then_drop, q_then_pass, q_then_test, q_then_not, q_then_again, q_then_or, q_then_then, q_then_in, q_then_p, q_again_halt, q_again_drop, q_again_pass, q_again_test, q_again_not, q_again_again, q_again_or, q_again_then, q_again_in, q_again_p, q_not_halt, q_not_drop, q_not_pass, q_not_test, q_not_not, q_not_again, q_not_or, q_not_then, q_not_in, q_not_p, gl_DROP, gl_PASS, gl_TEST, gl_PUT, gl_HALT, gl_OR, gl_THEN, gl_AGAIN, gl_NOT, gl_PARTS, gl_MOST_STATES, atI_0, atI_1, atI_2, ha.1, ha.2, hf.1, hf.2, h1'.1, h1'.2]
        refine (s_machine_again (by omega) hn h0 h1).mono ?_
        rintro d μ1 ⟨hμ, h⟩
        subst hμ; simp_arith [q_drop_halt, q_drop_drop, q_drop_pass, q_drop_test, q_drop_not, q_drop_again, q_drop_or, q_drop_then, q_drop_in, q_drop_p, q_pass_halt, q_pass_drop, q_pass_pass, q_pass_test, q_pass_not, q_pass_again, q_pass_or, q_pass_then, q_pass_in, q_pass_p, q_test_halt, q_test_drop, q_test_pass, q_test_test, q_test_not, q_test_again, q_test_or, q_test_then, q_test_in, q_test_p, q_put_halt, q_put_drop, q_put_pass, q_put_test, q_put_not, q_put_again, q_put_or, q_put_then, q_put_in, q_put_p, q_halt_halt, q_halt_drop, q_halt_pass, q_halt_test, q_halt_not, q_halt_again, q_halt_or, q_halt_then, q_halt_in, q_halt_p, q_or_halt, q_or_drop, q_or_pass, q_or_test, q_or_not, q_or_again, q_or_or, q_or_then, q_or_in, q_or_p, q_then_halt, q_then_drop, q_then_pass, q_then_test, q_then_not, q_then_again, q_then_or, q_then_then, q_then_in, q_then_p, q_again_halt, q_again_drop, q_again_pass, q_again_test, q_again_not, q_again_again, q_again_or, q_again_then, q_again_in, q_again_p, q_not_halt, q_not_drop, q_not_pass, q_not_test, q_not_not, q_not_again, q_not_or, q_not_then, q_not_in, q_not_p, gl_DROP, gl_PASS, gl_TEST, gl_PUT, gl_HALT, gl_OR, gl_THEN, gl_AGAIN, gl_NOT, gl_PARTS, gl_MOST_STATES, atI_0, atI_1, atI_2, h, Po.hs]
      | or a b =>
        have ha := a.fz
        have hb := b.fz
        simp only [Po.sz, Po.hs, Po.Ok] at h hp h0
        simp_arith [q_drop_halt, q_drop_drop, q_drop_pass, q_drop_test, q_drop_not, q_drop_again, q_drop_or, q_drop_then, q_drop_in, q_drop_p, q_pass_halt, q_pass_drop, q_pass_pass, q_pass_test, q_pass_not, q_pass_again, q_pass_or, q_pass_then, q_pass_in, q_pass_p, q_test_halt, q_test_drop, q_test_pass, q_test_test, q_test_not, q_test_again, q_test_or, q_test_then, q_test_in, q_test_p, q_put_halt, q_put_drop, q_put_pass, q_put_test, q_put_not, q_put_again, q_put_or, q_put_then, q_put_in, q_put_p, q_halt_halt, q_halt_drop, q_halt_pass, q_halt_test, q_halt_not, q_halt_again, q_halt_or, q_halt_then, q_halt_in, q_halt_p, q_or_halt, q_or_drop, q_or_pass, q_or_test, q_or_not, q_or_again, q_or_or, q_or_then, q_or_in, q_or_p, q_then_halt, q_then_drop, q_then_pass, q_then_test, q_then_not, q_then_again, q_then_or, q_then_then, q_then_in, q_then_p, q_again_halt, q_again_drop, q_again_pass, q_again_test, q_again_not, q_again_again, q_again_or, q_again_then, q_again_in, q_again_p, q_not_halt, q_not_drop, q_not_pass, q_not_test, q_not_not, q_not_again, q_not_or, q_not_then, q_not_in, q_not_p, gl_DROP, gl_PASS, gl_TEST, gl_PUT, gl_HALT, gl_OR, gl_THEN, gl_AGAIN, gl_NOT, gl_PARTS, gl_MOST_STATES, atI_0, atI_1, atI_2, Po.d, hf.1, hf.2, ha.1, ha.2, hb.1, hb.2]
        refine (s_told_machine hF k a _ _ (by omega) hp.1 (by omega)).mono ?_
        rintro d μ1 ⟨hμ, h1⟩
        subst hμ
        have h1' := Mch.fz _ h1
        simp_arith [q_drop_halt, q_drop_drop, q_drop_pass, q_drop_test, q_drop_not, q_drop_again, q_drop_or, q_drop_then, q_drop_in, q_drop_p, q_pass_halt, q_pass_drop, q_pass_pass, q_pass_test, q_pass_not, q_pass_again, q_pass_or, q_pass_then, q_pass_in, q_pass_p, q_test_halt, q_test_drop, q_test_pass, q_test_test, q_test_not, q_test_again, q_test_or, q_test_then, q_test_in, q_test_p, q_put_halt, q_put_drop, q_put_pass, q_put_test, q_put_not, q_put_again, q_put_or, q_put_then, q_put_in, q_put_p, q_halt_halt, q_halt_drop, q_halt_pass, q_halt_test, q_halt_not, q_halt_again, q_halt_or, q_halt_then, q_halt_in, q_halt_p, q_or_halt, q_or_drop, q_or_pass, q_or_test, q_or_not, q_or_again, q_or_or, q_or_then, q_or_in, q_or_p, q_then_halt, q_then_drop, q_then_pass, q_then_test, q_then_not, q_then_again, q_then_or, q_then_then, q_then_in, q_then_p, q_again_halt, q_again_drop, q_again_pass, q_again_test, q_again_not, q_again_again, q_again_or, q_again_then, q_again_in, q_again_p, q_not_halt, q_not_drop, q_not_pass, q_not_test, q_not_not, q_not_again, q_not_or, q_not_then, q_not_in, q_not_p, gl_DROP, gl_PASS, gl_TEST, gl_PUT, gl_HALT, gl_OR, gl_THEN, gl_AGAIN, gl_NOT, gl_PARTS, gl_MOST_STATES, atI_0, atI_1, atI_2, ha.1, ha.2, hb.1, hb.2, hf.1, hf.2, h1'.1, h1'.2]
        refine (s_told_machine hF k b _ _ (by omega) hp.2 (by omega)).mono ?_
        rintro d2 μ1 ⟨hμ, h2⟩
        subst hμ
        have h2' := Mch.fz _ h2
        try simp_arith [q_drop_halt, q_drop_drop, q_drop_pass, q_drop_test, q_drop_not, q_drop_again, q_drop_or, q_drop_then, q_drop_in, q_drop_p, q_pass_halt, q_pass_drop, q_pass_pass, q_pass_test, q_pass_not, q_pass_again, q_pass_or, q_pass_then, q_pass_in, q_pass_p, q_test_halt, q_test_drop, q_test_pass, q_test_test, q_test_not, q_test_again, q_test_or, q_test_then, q_test_in, q_test_p, q_put_halt, q_put_drop, q_put_pass, q_put_test, q_put_not, q_put_again, q_put_or, q_put_then, q_put_in, q_put_p, q_halt_halt, q_halt_drop, q_halt_pass, q_halt_test, q_halt_not, q_halt_again, q_halt_or, q_halt_then, q_halt_in, q_halt_p, q_or_halt, q_or_drop, q_or_pass, q_or_test, q_or_not, q_or_again, q_or_or, q_or_then, q_or_in, q_or_p, q_then_halt, q_then_drop, q_then_pass, q_then_test, q_then_not, q_then_again, q_then_or, q_then_then, q_then_in, q_then_p, q_again_halt, q_again_drop, q_again_pass, q_again_test, q_again_not, q_again_again, q_again_or, q_again_then, q_again_in, q_again_p, q_not_halt, q_not_drop, q_not_pass, q_not_test, q_not_not, q_not_again, q_not_or, q_not_then, q_not_in, q_not_p, gl_DROP, gl_PASS, gl_TEST, gl_PUT, gl_HALT, gl_OR, gl_THEN, gl_AGAIN, gl_NOT, gl_PARTS, gl_MOST_STATES, atI_0, atI_1, atI_2, h1'.1, h1'.2, h2'.1, h2'.2]
        refine (s_machine_or (by omega) hn (by omega) (by omega) h1 h2).mono ?_
        rintro d μ1 ⟨hμ, h⟩
        subst hμ; simp_arith [q_drop_halt, q_drop_drop, q_drop_pass, q_drop_test, q_drop_not, q_drop_again, q_drop_or, q_drop_then, q_drop_in, q_drop_p, q_pass_halt, q_pass_drop, q_pass_pass, q_pass_test, q_pass_not, q_pass_again, q_pass_or, q_pass_then, q_pass_in, q_pass_p, q_test_halt, q_test_drop, q_test_pass, q_test_test, q_test_not, q_test_again, q_test_or, q_test_then, q_test_in, q_test_p, q_put_halt, q_put_drop, q_put_pass, q_put_test, q_put_not, q_put_again, q_put_or, q_put_then, q_put_in, q_put_p, q_halt_halt, q_halt_drop, q_halt_pass, q_halt_test, q_halt_not, q_halt_again, q_halt_or, q_halt_then, q_halt_in, q_halt_p, q_or_halt, q_or_drop, q_or_pass, q_or_test, q_or_not, q_or_again, q_or_or, q_or_then, q_or_in, q_or_p, q_then_halt, q_then_drop, q_then_pass, q_then_test, q_then_not, q_then_again, q_then_or, q_then_then, q_then_in, q_then_p, q_again_halt, q_again_drop, q_again_pass, q_again_test, q_again_not, q_again_again, q_again_or, q_again_then, q_again_in, q_again_p, q_not_halt, q_not_drop, q_not_pass, q_not_test, q_not_not, q_not_again, q_not_or, q_not_then, q_not_in, q_not_p, gl_DROP, gl_PASS, gl_TEST, gl_PUT, gl_HALT, gl_OR, gl_THEN, gl_AGAIN, gl_NOT, gl_PARTS, gl_MOST_STATES, atI_0, atI_1, atI_2, h, Po.hs]
      | thn a b =>
        have ha := a.fz
        have hb := b.fz
        simp only [Po.sz, Po.hs, Po.Ok] at h hp h0
        simp_arith [q_drop_halt, q_drop_drop, q_drop_pass, q_drop_test, q_drop_not, q_drop_again, q_drop_or, q_drop_then, q_drop_in, q_drop_p, q_pass_halt, q_pass_drop, q_pass_pass, q_pass_test, q_pass_not, q_pass_again, q_pass_or, q_pass_then, q_pass_in, q_pass_p, q_test_halt, q_test_drop, q_test_pass, q_test_test, q_test_not, q_test_again, q_test_or, q_test_then, q_test_in, q_test_p, q_put_halt, q_put_drop, q_put_pass, q_put_test, q_put_not, q_put_again, q_put_or, q_put_then, q_put_in, q_put_p, q_halt_halt, q_halt_drop, q_halt_pass, q_halt_test, q_halt_not, q_halt_again, q_halt_or, q_halt_then, q_halt_in, q_halt_p, q_or_halt, q_or_drop, q_or_pass, q_or_test, q_or_not, q_or_again, q_or_or, q_or_then, q_or_in, q_or_p, q_then_halt, q_then_drop, q_then_pass, q_then_test, q_then_not, q_then_again, q_then_or, q_then_then, q_then_in, q_then_p, q_again_halt, q_again_drop, q_again_pass, q_again_test, q_again_not, q_again_again, q_again_or, q_again_then, q_again_in, q_again_p, q_not_halt, q_not_drop, q_not_pass, q_not_test, q_not_not, q_not_again, q_not_or, q_not_then, q_not_in, q_not_p, gl_DROP, gl_PASS, gl_TEST, gl_PUT, gl_HALT, gl_OR, gl_THEN, gl_AGAIN, gl_NOT, gl_PARTS, gl_MOST_STATES, atI_0, atI_1, atI_2, Po.d, hf.1, hf.2, ha.1, ha.2, hb.1, hb.2]
        refine (s_told_machine hF k a _ _ (by omega) hp.1 (by omega)).mono ?_
        rintro d μ1 ⟨hμ, h1⟩
        subst hμ
        have h1' := Mch.fz _ h1
        simp_arith [q_drop_halt, q_drop_drop, q_drop_pass, q_drop_test, q_drop_not, q_drop_again, q_drop_or, q_drop_then, q_drop_in, q_drop_p, q_pass_halt, q_pass_drop, q_pass_pass, q_pass_test, q_pass_not, q_pass_again, q_pass_or, q_pass_then, q_pass_in, q_pass_p, q_test_halt, q_test_drop, q_test_pass, q_test_test, q_test_not, q_test_again, q_test_or, q_test_then, q_test_in, q_test_p, q_put_halt, q_put_drop, q_put_pass, q_put_test, q_put_not, q_put_again, q_put_or, q_put_then, q_put_in, q_put_p, q_halt_halt, q_halt_drop, q_halt_pass, q_halt_test, q_halt_not, q_halt_again, q_halt_or, q_halt_then, q_halt_in, q_halt_p, q_or_halt, q_or_drop, q_or_pass, q_or_test, q_or_not, q_or_again, q_or_or, q_or_then, q_or_in, q_or_p, q_then_halt, q_then_drop, q_then_pass, q_then_test, q_then_not, q_then_again, q_then_or, q_then_then, q_then_in, q_then_p, q_again_halt, q_again_drop, q_again_pass, q_again_test, q_again_not, q_again_again, q_again_or, q_again_then, q_again_in, q_again_p, q_not_halt, q_not_drop, q_not_pass, q_not_test, q_not_not, q_not_again, q_not_or, q_not_then, q_not_in, q_not_p, gl_DROP, gl_PASS, gl_TEST, gl_PUT, gl_HALT, gl_OR, gl_THEN, gl_AGAIN, gl_NOT, gl_PARTS, gl_MOST_STATES, atI_0, atI_1, atI_2, ha.1, ha.2, hb.1, hb.2, hf.1, hf.2, h1'.1, h1'.2]
        refine (s_told_machine hF k b _ _ (by omega) hp.2 (by omega)).mono ?_
        rintro d2 μ1 ⟨hμ, h2⟩
        subst hμ
        have h2' := Mch.fz _ h2
        try simp_arith [q_drop_halt, q_drop_drop, q_drop_pass, q_drop_test, q_drop_not, q_drop_again, q_drop_or, q_drop_then, q_drop_in, q_drop_p, q_pass_halt, q_pass_drop, q_pass_pass, q_pass_test, q_pass_not, q_pass_again, q_pass_or, q_pass_then, q_pass_in, q_pass_p, q_test_halt, q_test_drop, q_test_pass, q_test_test, q_test_not, q_test_again, q_test_or, q_test_then, q_test_in, q_test_p, q_put_halt, q_put_drop, q_put_pass, q_put_test, q_put_not, q_put_again, q_put_or, q_put_then, q_put_in, q_put_p, q_halt_halt, q_halt_drop, q_halt_pass, q_halt_test, q_halt_not, q_halt_again, q_halt_or, q_halt_then, q_halt_in, q_halt_p, q_or_halt, q_or_drop, q_or_pass, q_or_test, q_or_not, q_or_again, q_or_or, q_or_then, q_or_in, q_or_p, q_then_halt, q_then_drop, q_then_pass, q_then_test, q_then_not, q_then_again, q_then_or, q_then_then, q_then_in, q_then_p, q_again_halt, q_again_drop, q_again_pass, q_again_test, q_again_not, q_again_again, q_again_or, q_again_then, q_again_in, q_again_p, q_not_halt, q_not_drop, q_not_pass, q_not_test, q_not_not, q_not_again, q_not_or, q_not_then, q_not_in, q_not_p, gl_DROP, gl_PASS, gl_TEST, gl_PUT, gl_HALT, gl_OR, gl_THEN, gl_AGAIN, gl_NOT, gl_PARTS, gl_MOST_STATES, atI_0, atI_1, atI_2, h1'.1, h1'.2, h2'.1, h2'.2]
        refine (s_machine_then (by omega) hn (by omega) (by omega) h1 h2).mono ?_
        rintro d μ1 ⟨hμ, h⟩
        subst hμ; simp_arith [q_drop_halt, q_drop_drop, q_drop_pass, q_drop_test, q_drop_not, q_drop_again, q_drop_or, q_drop_then, q_drop_in, q_drop_p, q_pass_halt, q_pass_drop, q_pass_pass, q_pass_test, q_pass_not, q_pass_again, q_pass_or, q_pass_then, q_pass_in, q_pass_p, q_test_halt, q_test_drop, q_test_pass, q_test_test, q_test_not, q_test_again, q_test_or, q_test_then, q_test_in, q_test_p, q_put_halt, q_put_drop, q_put_pass, q_put_test, q_put_not, q_put_again, q_put_or, q_put_then, q_put_in, q_put_p, q_halt_halt, q_halt_drop, q_halt_pass, q_halt_test, q_halt_not, q_halt_again, q_halt_or, q_halt_then, q_halt_in, q_halt_p, q_or_halt, q_or_drop, q_or_pass, q_or_test, q_or_not, q_or_again, q_or_or, q_or_then, q_or_in, q_or_p, q_then_halt, q_then_drop, q_then_pass, q_then_test, q_then_not, q_then_again, q_then_or, q_then_then, q_then_in, q_then_p, q_again_halt, q_again_drop, q_again_pass, q_again_test, q_again_not, q_again_again, q_again_or, q_again_then, q_again_in, q_again_p, q_not_halt, q_not_drop, q_not_pass, q_not_test, q_not_not, q_not_again, q_not_or, q_not_then, q_not_in, q_not_p, gl_DROP, gl_PASS, gl_TEST, gl_PUT, gl_HALT, gl_OR, gl_THEN, gl_AGAIN, gl_NOT, gl_PARTS, gl_MOST_STATES, atI_0, atI_1, atI_2, h, Po.hs]
theorem s_machine_of {F : D} {ws : List Nat} (hF : Fd F ws) {k : Nat} (p : Po) (hk : p.sz + 13 ≤ k) (hp : p.Ok ws) (hs : p.hs ≤ 12) : Wp (run pp k (Str.ofString "machine_of") [F, p.d]) μ (Pu (Mch (prd ws) p.hs) μ) X := by
  obtain ⟨k, rfl⟩ : ∃ j, k = j + 1 := ⟨k - 1, by omega⟩
  have hf : F.nb = true ∧ F.fz = F := by cases hF <;> exact ⟨rfl, rfl⟩
  have hz := p.fz
  rw [e_machine_of]
  simp_arith [q_drop_halt, q_drop_drop, q_drop_pass, q_drop_test, q_drop_not, q_drop_again, q_drop_or, q_drop_then, q_drop_in, q_drop_p, q_pass_halt, q_pass_drop, q_pass_pass, q_pass_test, q_pass_not, q_pass_again, q_pass_or, q_pass_then, q_pass_in, q_pass_p, q_test_halt, q_test_drop, q_test_pass, q_test_test, q_test_not, q_test_again, q_test_or, q_test_then, q_test_in, q_test_p, q_put_halt, q_put_drop, q_put_pass, q_put_test, q_put_not, q_put_again, q_put_or, q_put_then, q_put_in, q_put_p, q_halt_halt, q_halt_drop, q_halt_pass, q_halt_test, q_halt_not, q_halt_again, q_halt_or, q_halt_then, q_halt_in, q_halt_p, q_or_halt, q_or_drop, q_or_pass, q_or_test, q_or_not, q_or_again, q_or_or, q_or_then, q_or_in, q_or_p, q_then_halt, q_then_drop, q_then_pass, q_then_test, q_then_not, q_then_again, q_then_or, q_then_then, q_then_in, q_then_p, q_again_halt, q_again_drop, q_again_pass, q_again_test, q_again_not, q_again_again, q_again_or, q_again_then, q_again_in, q_again_p, q_not_halt, q_not_drop, q_not_pass, q_not_test, q_not_not, q_not_again, q_not_or, q_not_then, q_not_in, q_not_p, gl_DROP, gl_PASS, gl_TEST, gl_PUT, gl_HALT, gl_OR, gl_THEN, gl_AGAIN, gl_NOT, gl_PARTS, gl_MOST_STATES, atI_0, atI_1, atI_2, P50.f_machine_of, hf.1, hf.2, hz.1, hz.2]
  refine (s_count_halts k p _ _ (by omega)).mono ?_
  rintro d μ1 ⟨hμ, h1⟩
  subst hμ; subst h1
  have : decide ((12 : Int) < p.hs) = false := by simp; omega
  simp_arith [q_drop_halt, q_drop_drop, q_drop_pass, q_drop_test, q_drop_not, q_drop_again, q_drop_or, q_drop_then, q_drop_in, q_drop_p, q_pass_halt, q_pass_drop, q_pass_pass, q_pass_test, q_pass_not, q_pass_again, q_pass_or, q_pass_then, q_pass_in, q_pass_p, q_test_halt, q_test_drop, q_test_pass, q_test_test, q_test_not, q_test_again, q_test_or, q_test_then, q_test_in, q_test_p, q_put_halt, q_put_drop, q_put_pass, q_put_test, q_put_not, q_put_again, q_put_or, q_put_then, q_put_in, q_put_p, q_halt_halt, q_halt_drop, q_halt_pass, q_halt_test, q_halt_not, q_halt_again, q_halt_or, q_halt_then, q_halt_in, q_halt_p, q_or_halt, q_or_drop, q_or_pass, q_or_test, q_or_not, q_or_again, q_or_or, q_or_then, q_or_in, q_or_p, q_then_halt, q_then_drop, q_then_pass, q_then_test, q_then_not, q_then_again, q_then_or, q_then_then, q_then_in, q_then_p, q_again_halt, q_again_drop, q_again_pass, q_again_test, q_again_not, q_again_again, q_again_or, q_again_then, q_again_in, q_again_p, q_not_halt, q_not_drop, q_not_pass, q_not_test, q_not_not, q_not_again, q_not_or, q_not_then, q_not_in, q_not_p, gl_DROP, gl_PASS, gl_TEST, gl_PUT, gl_HALT, gl_OR, gl_THEN, gl_AGAIN, gl_NOT, gl_PARTS, gl_MOST_STATES, atI_0, atI_1, atI_2, this, hf.1, hf.2, hz.1, hz.2]
  refine (s_told_machine hF k p _ _ (by omega) hp (by omega)).mono ?_
  rintro d μ1 ⟨hμ, h1⟩
  subst hμ; simp_arith [q_drop_halt, q_drop_drop, q_drop_pass, q_drop_test, q_drop_not, q_drop_again, q_drop_or, q_drop_then, q_drop_in, q_drop_p, q_pass_halt, q_pass_drop, q_pass_pass, q_pass_test, q_pass_not, q_pass_again, q_pass_or, q_pass_then, q_pass_in, q_pass_p, q_test_halt, q_test_drop, q_test_pass, q_test_test, q_test_not, q_test_again, q_test_or, q_test_then, q_test_in, q_test_p, q_put_halt, q_put_drop, q_put_pass, q_put_test, q_put_not, q_put_again, q_put_or, q_put_then, q_put_in, q_put_p, q_halt_halt, q_halt_drop, q_halt_pass, q_halt_test, q_halt_not, q_halt_again, q_halt_or, q_halt_then, q_halt_in, q_halt_p, q_or_halt, q_or_drop, q_or_pass, q_or_test, q_or_not, q_or_again, q_or_or, q_or_then, q_or_in, q_or_p, q_then_halt, q_then_drop, q_then_pass, q_then_test, q_then_not, q_then_again, q_then_or, q_then_then, q_then_in, q_then_p, q_again_halt, q_again_drop, q_again_pass, q_again_test, q_again_not, q_again_again, q_again_or, q_again_then, q_again_in, q_again_p, q_not_halt, q_not_drop, q_not_pass, q_not_test, q_not_not, q_not_again, q_not_or, q_not_then, q_not_in, q_not_p, gl_DROP, gl_PASS, gl_TEST, gl_PUT, gl_HALT, gl_OR, gl_THEN, gl_AGAIN, gl_NOT, gl_PARTS, gl_MOST_STATES, atI_0, atI_1, atI_2, h1]
end
/-! W8 -/
abbrev Row := List Int
abbrev Tb := List Row
def eI (i : Int) : D := .int i
def eL {α : Type} (e : α → D) (as : List α) : D := .lst false (as.map e)
def eR : Row → D := eL D.int
def eT : Tb → D := eL eR
def eS : List Tb → D := eL eT
def eG : List (List Tb) → D := eL eS
abbrev Mc := List Tb × List (List Tb)
def eM (m : Mc) : D := .tup [eS m.1, eG m.2]
/-- sizes -/
def zL {α : Type} (p : α → Prop) (as : List α) : Prop := as.length ≤ 200 ∧ ∀ a ∈ as, p a
def zR : Row → Prop := zL fun _ => True
def zT : Tb → Prop := zL zR
def zS : List Tb → Prop := zL zT
def zG : List (List Tb) → Prop := zL zS
def zM (m : Mc) : Prop := zS m.1 ∧ zG m.2
def Frz {α : Type} (e : α → D) : Prop := ∀ a, (e a).nb = true ∧ (e a).fz = e a
theorem frzI : Frz D.int := fun _ => ⟨rfl, rfl⟩
theorem nbL_map {α : Type} {e : α → D} (h : Frz e) (as : List α) : D.nbL (as.map e) = true ∧ D.fzL (as.map e) = as.map e :=
  nbL_of (P := fun d => ∃ a, d = e a) (by rintro d ⟨a, rfl⟩; exact h a) (by intro x hx; obtain ⟨a, _, rfl⟩ := List.mem_map.1 hx; exact ⟨a, rfl⟩)
theorem frzL {α : Type} {e : α → D} (h : Frz e) : Frz (eL e) := fun as => by
  have := nbL_map h as
  simp [eL, D.nb, D.fz, this.1, this.2]
theorem frzR : Frz eR := frzL frzI
theorem frzT : Frz eT := frzL frzR
theorem frzS : Frz eS := frzL frzT
theorem frzG : Frz eG := frzL frzS
theorem frzM : Frz eM := fun m => by
  have h1 := frzS m.1
  have h2 := frzG m.2
  simp [eM, D.nb, D.nbL, D.fz, D.fzL, h1.1, h1.2, h2.1, h2.2]
/-! equality of data -/
structure Cod {α : Type} (e : α → D) (f : α → PyData) (m : Nat) : Prop where
  toP : ∀ a, (e a).toP = some (f a)
  lay : ∀ a, (f a).canLay0 = true
  dep : ∀ a, (f a).depth ≤ m
  eq : ∀ a b, PyData.eqv (f a) (f b) = true ↔ a = b
theorem codI : Cod D.int PyData.int 0 where
  toP := fun _ => rfl
  lay := fun _ => rfl
  dep := fun _ => by simp [PyData.depth]
  eq := fun a b => by simp [PyData.eqv]
theorem toPL_map {α : Type} {e : α → D} {f : α → PyData} (h : ∀ a, (e a).toP = some (f a)) : ∀ as : List α, D.toPL (as.map e) = some (as.map f)
  | [] => rfl
  | a :: as => by simp [D.toPL, h a, toPL_map h as]
theorem layL_map {α : Type} {f : α → PyData} (h : ∀ a, (f a).canLay0 = true) : ∀ as : List α, PyData.canLayAll0 (as.map f) = true
  | [] => rfl
  | a :: as => by simp [PyData.canLayAll0, h a, layL_map h as]
theorem depL_map {α : Type} {f : α → PyData} {m : Nat} (h : ∀ a, (f a).depth ≤ m) : ∀ as : List α, PyData.depthAll (as.map f) ≤ m
  | [] => by simp [PyData.depthAll]
  | a :: as => by have := h a; have := depL_map h as; simp [PyData.depthAll]; omega
theorem eqvL_map {α : Type} {f : α → PyData} (h : ∀ a b, PyData.eqv (f a) (f b) = true ↔ a = b) : ∀ as bs : List α, PyData.eqvAll (as.map f) (bs.map f) = true ↔ as = bs
  | [], [] => by simp [PyData.eqvAll]
  | [], _ :: _ => by simp [PyData.eqvAll]
  | _ :: _, [] => by simp [PyData.eqvAll]
  | a :: as, b :: bs => by simp [PyData.eqvAll, h a b, eqvL_map h as bs]
theorem codL {α : Type} {e : α → D} {f : α → PyData} {m : Nat} (h : Cod e f m) : Cod (eL e) (fun as => .list (as.map f)) (m + 1) where
  toP := fun as => by simp [eL, D.toP, toPL_map h.toP]
  lay := fun as => by simp [PyData.canLay0, layL_map h.lay]
  dep := fun as => by have := depL_map h.dep as; simp [PyData.depth]; omega
  eq := fun as bs => by simp only [PyData.eqv]; exact eqvL_map h.eq as bs
def pL {α : Type} (f : α → PyData) (as : List α) : PyData := .list (as.map f)
def pR : Row → PyData := pL .int
def pT : Tb → PyData := pL pR
def pS : List Tb → PyData := pL pT
def pG : List (List Tb) → PyData := pL pS
theorem codR : Cod eR pR 1 := codL codI
theorem codT : Cod eT pT 2 := codL codR
theorem codS : Cod eS pS 3 := codL codT
theorem codG : Cod eG pG 4 := codL codS
theorem codM : Cod eM (fun m => .tuple [pS m.1, pG m.2]) 5 where
  toP := fun m => by simp only [eM, D.toP, D.toPL, codS.toP, codG.toP]; rfl
  lay := fun m => by
    have h1 := codS.lay m.1
    have h2 := codG.lay m.2
    simp only [PyData.canLay0, PyData.canLayAll0, h1, h2, Bool.and_self]
  dep := fun m => by
    have h1 := codS.dep m.1
    have h2 := codG.dep m.2
    simp only [PyData.depth, PyData.depthAll]
    omega
  eq := fun m l => by
    have h1 := codS.eq m.1 l.1
    have h2 := codG.eq m.2 l.2
    simp only [PyData.eqv, PyData.eqvAll, Bool.and_true, Bool.and_eq_true]
    rw [h1, h2]
    exact ⟨fun h => Prod.ext h.1 h.2, fun h => by subst h; exact ⟨rfl, rfl⟩⟩
theorem Cod.eqD {α : Type} [DecidableEq α] {e : α → D} {f : α → PyData} {m : Nat} (h : Cod e f m) (hm : m ≤ 64) (a b : α) : D.eqD (e a) (e b) = some (decide (a = b)) := by
  have h1 : SeqAt.shaped (f a) = true := by simp [SeqAt.shaped, h.lay]; have := h.dep a; omega
  have h2 : SeqAt.shaped (f b) = true := by simp [SeqAt.shaped, h.lay]; have := h.dep b; omega
  simp only [D.eqD, h.toP, h1, h2, Bool.and_self, if_true]
  congr 1
  rw [Bool.eq_iff_iff, h.eq, decide_eq_true_eq]
section
variable {μ : Sto} {X : Str → List D → Sto → Prop} {Q : D → Sto → Prop}
theorem w_neT {t u : Tb} : Wp (cmpD .ne (eT t) (eT u)) μ Q X = Q (.bl (!decide (t = u))) μ := by
  simp only [cmpD, codT.eqD (by omega), Option.map, wp_some]
theorem w_eqM {t : Mc} : Wp (cmpD .eq (eM t) (eM t)) μ Q X = Q (.bl true) μ := by
  simp only [cmpD, codM.eqD (by omega), Option.map, wp_some, decide_true]
end
/-! a thing anew -/
def An {α : Type} (e : α → D) (p : α → Prop) (j : Nat) : Prop := ∀ (k : Nat) (a : α) (μ : Sto) (X : Str → List D → Sto → Prop), j ≤ k → p a → Wp (run pp k (Str.ofString "_law_anew") [e a]) μ (Pu (· = e a) μ) X
theorem anI {p : Int → Prop} : An D.int p 1 := by
  intro k a μ X hk _
  obtain ⟨k, rfl⟩ : ∃ j, k = j + 1 := ⟨k - 1, by omega⟩
  rw [e__law_anew]
  simp_arith [P50.f__law_anew, hasTy, isTy]
theorem anL {α : Type} {e : α → D} {p : α → Prop} {j : Nat} (he : Frz e) (h : An e p j) : An (eL e) (zL p) (j + 1) := by
  intro k as μ X hk hz
  obtain ⟨k, rfl⟩ : ∃ j, k = j + 1 := ⟨k - 1, by omega⟩
  have hd := nbL_map he as
  rw [e__law_anew]
  simp_arith [P50.f__law_anew, hasTy, isTy, eL, hd.1, hd.2]
  refine wp_mapE id (by have := hz.1; simp [line_eq]; omega) ?_ ?_
  · intro x hx
    obtain ⟨a, ha, rfl⟩ := List.mem_map.1 hx
    have h1 := he a
    simp_arith [h1.1, h1.2]
    refine (h k a _ _ (by omega) (hz.2 a ha)).mono ?_
    rintro d μ1 ⟨hμ, hd⟩
    subst hμ
    exact ⟨rfl, _, rfl, hd⟩
  · intro ys hy
    simp_arith [hy]
    simp
theorem anR : An eR zR 2 := anL frzI anI
theorem anT : An eT zT 3 := anL frzR anR
theorem anS : An eS zS 4 := anL frzT anT
theorem anG : An eG zG 5 := anL frzS anS
theorem anM : An eM zM 6 := by
  intro k m μ X hk hz
  obtain ⟨k, rfl⟩ : ∃ j, k = j + 1 := ⟨k - 1, by omega⟩
  have h1 := frzS m.1
  have h2 := frzG m.2
  rw [e__law_anew]
  simp_arith [P50.f__law_anew, hasTy, isTy, eM, h1.1, h1.2, h2.1, h2.2]
  refine wp_mapE id (by simp [line_eq]) ?_ ?_
  · intro x hx
    simp only [List.mem_cons, List.not_mem_nil, or_false] at hx
    rcases hx with rfl | rfl
    · simp_arith [h1.1, h1.2]
      refine (anS k m.1 _ _ (by omega) hz.1).mono ?_
      rintro d μ1 ⟨hμ, hd⟩
      subst hμ
      exact ⟨rfl, _, rfl, hd⟩
    · simp_arith [h2.1, h2.2]
      refine (anG k m.2 _ _ (by omega) hz.2).mono ?_
      rintro d μ1 ⟨hμ, hd⟩
      subst hμ
      exact ⟨rfl, _, rfl, hd⟩
  · intro ys hy
    simp only [List.map_cons, List.map_nil, id] at hy
    simp_arith [hy, fzL_eq, h1.2, h2.2, List.map_cons, List.map_nil]
/-! W9 -/
theorem u_R (r : Row) : eR r = .lst false (r.map .int) := kp rfl
theorem u_T (r : Tb) : eT r = .lst false (r.map eR) := kp rfl
theorem u_S (r : List Tb) : eS r = .lst false (r.map eT) := kp rfl
theorem u_G (r : List (List Tb)) : eG r = .lst false (r.map eS) := kp rfl
theorem u_M (a : List Tb) (g : List (List Tb)) : eM (a, g) = .tup [eS a, eG g] := kp rfl
def risB (r : Row) : Bool := (List.range (r.length - 1)).all fun i => decide (r.getD i 0 < r.getD (i + 1) 0)
def rowB (n : Nat) (r : Row) : Bool := r.all (fun x => decide ((0 : Int) ≤ x) && decide (x ≤ (n : Int) - 1)) && risB r
def tabB (n : Nat) (t : Tb) : Bool := decide (t.length = n) && t.all (rowB n)
theorem eL_get {α : Type} (e : α → D) (as : List α) (i : Nat) (h : i < as.length) : L2.atI (as.map e) (i : Int) = some (e as[i]) := by
  rw [atI_nat]; simp [h]
theorem int_get (r : Row) (i : Nat) (h : i < r.length) : L2.atI (r.map D.int) (i : Int) = some (.int (r.getD i 0)) := by
  rw [atI_nat]; simp [h]
section
variable {μ : Sto} {X : Str → List D → Sto → Prop} {n : Nat}
theorem s_is_whole {k : Nat} {x : Int} (hk : 1 ≤ k) : Wp (run pp k (Str.ofString "is_whole") [.int x]) μ (fun d μ' => μ' = μ ∧ d = .bl true) X := by
  obtain ⟨k, rfl⟩ : ∃ j, k = j + 1 := ⟨k - 1, by omega⟩
  rw [e_is_whole]
  simp_arith [P50.f_is_whole, hasTy, isTy]
theorem s_are_wholes {k : Nat} {r : Row} (hk : 2 ≤ k) (hr : zR r) : Wp (run pp k (Str.ofString "are_wholes") [eR r]) μ (fun d μ' => μ' = μ ∧ d = .bl true) X := by
  obtain ⟨k, rfl⟩ : ∃ j, k = j + 2 := ⟨k - 2, by omega⟩
  rw [e_are_wholes]
  simp_arith [P50.f_are_wholes, hasTy, isTy, u_R, nbL_ints, fzL_ints]
  refine wp_mapV D.int (fun _ => .bl true) r [] _ (by have := hr.1; simp [line_eq]; omega) ?_ ?_
  · intro x hx
    simp_arith []
    refine (s_is_whole (by omega)).mono ?_
    rintro d μ1 ⟨hμ, hd⟩
    subst hμ; subst hd
    exact ⟨rfl, rfl⟩
  · simp_arith []
    rw [show r.map (fun _ => D.bl true) = (r.map (fun _ => true)).map D.bl by simp, show D.fzL ((r.map (fun _ => true)).map D.bl) = (r.map (fun _ => true)).map D.bl by rw [fzL_map]; rfl]
    rw [w_all]
    simp
theorem s_are_between {k : Nat} {r : Row} {a b : Int} (hk : 3 ≤ k) (hr : zR r) : Wp (run pp k (Str.ofString "are_between") [eR r, .int a, .int b]) μ (fun d μ' => μ' = μ ∧ d = .bl (r.all fun x => decide (a ≤ x) && decide (x ≤ b))) X := by
  obtain ⟨k, rfl⟩ : ∃ j, k = j + 3 := ⟨k - 3, by omega⟩
  have hf := frzR r
  rw [e_are_between]
  simp_arith [P50.f_are_between, hf.1, hf.2]
  refine (s_are_wholes (by omega) hr).mono ?_
  rintro d μ1 ⟨hμ, hd⟩
  subst hμ; subst hd
  simp_arith [u_R, nbL_ints, fzL_ints]
  refine wp_mapV D.int (fun x => .bl (decide (a ≤ x) && decide (x ≤ b))) r [] _ (by have := hr.1; simp [line_eq]; omega) ?_ ?_
  · intro x hx
    simp_arith []
    by_cases h1 : a ≤ x
    · simp_arith [h1]
    · simp_arith [h1, Bool.false_and]
  · simp_arith []
    rw [show r.map (fun x => D.bl (decide (a ≤ x) && decide (x ≤ b))) = (r.map (fun x => (decide (a ≤ x) && decide (x ≤ b)))).map D.bl by simp, show D.fzL ((r.map (fun x => (decide (a ≤ x) && decide (x ≤ b)))).map D.bl) = (r.map (fun x => (decide (a ≤ x) && decide (x ≤ b)))).map D.bl by rw [fzL_map]; rfl]
    rw [w_all]
    simp [List.all_map, Function.comp_def]
theorem s_is_rising {k : Nat} {r : Row} (hk : 1 ≤ k) (hr : zR r) : Wp (run pp k (Str.ofString "is_rising") [eR r]) μ (fun d μ' => μ' = μ ∧ d = .bl (risB r)) X := by
  obtain ⟨k, rfl⟩ : ∃ j, k = j + 1 := ⟨k - 1, by omega⟩
  rw [e_is_rising]
  simp_arith [P50.f_is_rising, u_R, nbL_ints, fzL_ints]
  have hl := hr.1
  refine ⟨by omega, ?_⟩
  rw [show ((r.length : Int) - 1).toNat = r.length - 1 by omega]
  refine wp_mapV (fun i : Nat => D.int (1 + (i : Int))) (fun i => .bl (decide (r.getD i 0 < r.getD (i + 1) 0))) (List.range (r.length - 1)) [] _ (by simp [line_eq]; omega) ?_ ?_
  · intro i hi
    have hi := List.mem_range.1 hi
    have h1 := int_get r i (by omega)
    have h2 := int_get r (i + 1) (by omega)
    rw [show (i : Int) = 1 + (i : Int) - 1 by omega] at h1
    rw [show ((i + 1 : Nat) : Int) = 1 + (i : Int) by omega] at h2
    simp_arith [nbL_ints, fzL_ints, h1, h2]
  · simp_arith []
    rw [show (List.range (r.length - 1)).map (fun i => D.bl (decide (r.getD i 0 < r.getD (i + 1) 0))) = ((List.range (r.length - 1)).map (fun i => (decide (r.getD i 0 < r.getD (i + 1) 0)))).map D.bl by simp, show D.fzL (((List.range (r.length - 1)).map (fun i => (decide (r.getD i 0 < r.getD (i + 1) 0)))).map D.bl) = ((List.range (r.length - 1)).map (fun i => (decide (r.getD i 0 < r.getD (i + 1) 0)))).map D.bl by rw [fzL_map]; rfl]
    rw [w_all]
    simp [List.all_map, Function.comp_def, risB]
theorem s_is_outs {k : Nat} {r : Row} (hk : 4 ≤ k) (hr : zR r) : Wp (run pp k (Str.ofString "is_outs") [.int n, eR r]) μ (fun d μ' => μ' = μ ∧ d = .bl (rowB n r)) X := by
  obtain ⟨k, rfl⟩ : ∃ j, k = j + 4 := ⟨k - 4, by omega⟩
  have hf := frzR r
  rw [e_is_outs]
  simp_arith [P50.f_is_outs, hf.1, hf.2]
  refine (s_are_between (by omega) hr).mono ?_
  rintro d μ1 ⟨hμ, hd⟩
  subst hμ; subst hd
  simp_arith []
  cases h : (r.all fun x => decide ((0 : Int) ≤ x) && decide (x ≤ (n : Int) - 1)) with
  | false => simp_arith [rowB, h, Bool.false_and]
  | true =>
    simp_arith [hf.1, hf.2]
    refine (s_is_rising (by omega) hr).mono ?_
    rintro d μ1 ⟨hμ, hd⟩
    subst hμ; subst hd
    simp [rowB, h]
theorem s_is_table {k : Nat} {t : Tb} (hk : 5 ≤ k) (ht : zT t) : Wp (run pp k (Str.ofString "is_table") [.int n, eT t]) μ (fun d μ' => μ' = μ ∧ d = .bl (tabB n t)) X := by
  obtain ⟨k, rfl⟩ : ∃ j, k = j + 5 := ⟨k - 5, by omega⟩
  have hd := nbL_map frzR t
  rw [e_is_table]
  simp_arith [P50.f_is_table, u_T, hd.1, hd.2, hasTy, isTy]
  by_cases hl : t.length = n
  · rw [show decide ((t.length : Int) = (n : Int)) = true from decide_eq_true (by omega)]
    simp_arith [hd.1, hd.2]
    refine wp_mapV eR (fun r => .bl (rowB n r)) t [] _ (by have := ht.1; simp [line_eq]; omega) ?_ ?_
    · intro r hr
      have hf := frzR r
      simp_arith [hf.1, hf.2]
      refine (s_is_outs (by omega) (ht.2 r hr)).mono ?_
      rintro d μ1 ⟨hμ, hd⟩
      subst hμ; subst hd
      exact ⟨rfl, rfl⟩
    · simp_arith []
      rw [show t.map (fun r => D.bl (rowB n r)) = (t.map (rowB n)).map D.bl by simp, show D.fzL ((t.map (rowB n)).map D.bl) = (t.map (rowB n)).map D.bl by rw [fzL_map]; rfl]
      rw [w_all]
      simp [List.all_map, Function.comp_def, tabB, hl]
  · rw [show decide ((t.length : Int) = (n : Int)) = false from decide_eq_false (by omega)]
    simp_arith []
    simp [tabB, hl]
def fitB (m : Mc) : Bool := decide (1 ≤ m.1.length) && decide (m.1.length ≤ 13) && decide (m.2.length = m.1.length) && m.2.all fun r => decide (r.length = m.1.length)
theorem s_do_fit {k : Nat} {m : Mc} (hk : 1 ≤ k) (hm : zM m) : Wp (run pp k (Str.ofString "do_fit") [eM m]) μ (fun d μ' => μ' = μ ∧ d = .bl (fitB m)) X := by
  obtain ⟨k, rfl⟩ : ∃ j, k = j + 1 := ⟨k - 1, by omega⟩
  obtain ⟨a, g⟩ := m
  have h1 := nbL_map frzT a
  have h2 := nbL_map frzS g
  rw [e_do_fit]
  simp_arith [P50.f_do_fit, u_M, u_S, u_G, h1.1, h1.2, h2.1, h2.2, gl_MOST_STATES]
  simp only [fitB]
  by_cases c1 : 1 ≤ a.length
  · rw [show decide ((1 : Int) ≤ (a.length : Int)) = true from decide_eq_true (by omega)]
    simp_arith [h1.1, h1.2, h2.1, h2.2, gl_MOST_STATES]
    by_cases c2 : a.length ≤ 13
    · rw [show decide ((a.length : Int) ≤ 12 + 1) = true from decide_eq_true (by omega)]
      simp_arith [h1.1, h1.2, h2.1, h2.2]
      by_cases c3 : g.length = a.length
      · rw [show decide ((g.length : Int) = (a.length : Int)) = true from decide_eq_true (by omega)]
        simp_arith [h1.1, h1.2, h2.1, h2.2]
        refine wp_mapV eS (fun r => .bl (decide (r.length = a.length))) g [] _ (by have := hm.2.1; simp [line_eq]; simp at this; omega) ?_ ?_
        · intro r hr
          have h3 := nbL_map frzT r
          simp_arith [u_S, h1.1, h1.2, h3.1, h3.2]
          simp
          omega
        · simp_arith []
          rw [show g.map (fun r => D.bl (decide (r.length = a.length))) = (g.map (fun r => decide (r.length = a.length))).map D.bl by simp, show D.fzL ((g.map (fun r => decide (r.length = a.length))).map D.bl) = (g.map (fun r => decide (r.length = a.length))).map D.bl by rw [fzL_map]; rfl]
          rw [w_all]
          simp [List.all_map, Function.comp_def, c1, c2, c3]
      · rw [show decide ((g.length : Int) = (a.length : Int)) = false from decide_eq_false (by omega)]
        simp_arith []
        simp [c3]
    · rw [show decide ((a.length : Int) ≤ 12 + 1) = false from decide_eq_false (by omega)]
      simp_arith []
      simp [c2]
  · rw [show decide ((1 : Int) ≤ (a.length : Int)) = false from decide_eq_false (by omega)]
    simp_arith []
    simp [c1]
/-! the fault -/
def goB (n j : Nat) (t : Tb) : Bool := tabB n t && (decide (j ≠ 0) || t.all (fun r => decide (r = [])))
def fe (n : Nat) : Nat → List Tb → Option (Int × Int)
  | _, [] => none
  | i, t :: ts => if tabB n t then fe n (i + 1) ts else some (i, -1)
def fr (n i : Nat) : Nat → List Tb → Option (Int × Int)
  | _, [] => none
  | j, t :: ts => if goB n j t then fr n i (j + 1) ts else some (i, j)
def fg (n : Nat) : Nat → List (List Tb) → Option (Int × Int)
  | _, [] => none
  | i, r :: rs => match fr n i 0 r with
    | some x => some x
    | none => fg n (i + 1) rs
def fault (n : Nat) (m : Mc) : Option (Int × Int) :=
  if fitB m then (match fe n 0 m.1 with
    | some x => some x
    | none => fg n 0 m.2) else some (-1, -1)
theorem num_get (ds : List D) : ∀ (m i : Nat) (h : i < (num m ds).length), ∃ h' : i < ds.length, (num m ds)[i] = .tup [.int ((m + i : Nat) : Int), ds[i]] := by
  induction ds with
  | nil => intro m i h; simp [num] at h
  | cons d ds ih =>
    intro m i h
    cases i with
    | zero => exact ⟨by simp, rfl⟩
    | succ i =>
      simp only [num, List.length_cons] at h
      obtain ⟨h', e⟩ := ih (m + 1) i (by omega)
      refine ⟨by simp; omega, ?_⟩
      simp only [num, List.getElem_cons_succ]
      rw [e]
      simp; omega
theorem drop_get {α : Type} {as : List α} {i : Nat} (h : i < as.length) : as.drop i = as[i] :: as.drop (i + 1) := List.drop_eq_getElem_cons h
end
/-! W10 -/
theorem Dr_eT (n : Nat) : Dr n = eT (List.replicate n []) := by
  simp [Dr, u_T, u_R, List.map_replicate]
theorem goB_alt {n j : Nat} {t : Tb} (h : tabB n t = true) : goB n j t = !(decide (j = 0) && !decide (t = List.replicate n [])) := by
  have hl : t.length = n := by
    simp only [tabB, Bool.and_eq_true, decide_eq_true_eq] at h; exact h.1
  have e : t.all (fun r => decide (r = [])) = decide (t = List.replicate n []) := by
    rw [Bool.eq_iff_iff]
    simp only [List.all_eq_true, decide_eq_true_eq]
    constructor
    · intro hh
      exact List.eq_replicate_iff.2 ⟨hl, hh⟩
    · intro hh x hx
      rw [hh] at hx
      exact (List.mem_replicate.1 hx).2
  rw [goB, h, e]
  cases decide (t = List.replicate n []) <;> by_cases hj : j = 0 <;> simp [hj]
def enc : Option (Int × Int) → D
  | none => .non
  | some x => .tup [.int x.1, .int x.2]
section
variable {μ : Sto} {X : Str → List D → Sto → Prop}
theorem s_check_machine {k : Nat} {F : D} {ws : List Nat} {m : Mc} (hF : Fd F ws) (hk : 8 ≤ k) (hm : zM m) : Wp (run pp k (Str.ofString "check_machine") [F, eM m]) μ (fun d μ' => μ' = μ ∧ fault (prd ws) m = none ∧ d = .non) (fun c fs μ' => μ' = μ ∧ c = Str.ofString "BadMachine" ∧ ∃ x, fault (prd ws) m = some x ∧ fs = [.int x.1, .int x.2]) := by
  obtain ⟨k, rfl⟩ : ∃ j, k = j + 8 := ⟨k - 8, by omega⟩
  have hn : prd ws ≤ 16 := by cases hF <;> decide
  have hf : F.nb = true ∧ F.fz = F := by cases hF <;> exact ⟨rfl, rfl⟩
  have h0 := frzM m
  rw [e_check_machine]
  simp_arith [P50.f_check_machine, hf.1, hf.2, h0.1, h0.2]
  refine (s_do_fit (by omega) hm).mono ?_
  rintro d μ1 ⟨hμ, hd⟩
  subst hμ; subst hd
  simp_arith []
  cases hfit : fitB m with
  | false =>
    simp_arith []
    exact ⟨_, by simp only [fault, hfit]; rfl, rfl⟩
  | true =>
    simp_arith [hf.1, hf.2]
    refine Wp.of_ok (ccount_parcels hF (k + 3) _) ?_
    obtain ⟨a, g⟩ := m
    have a1 := frzS a
    have g1 := frzG g
    have a2 := nbL_map frzT a
    have g2 := nbL_map frzS g
    have hft : ∀ x, fe (prd ws) 0 a = some x → fault (prd ws) (a, g) = some x := by
      intro x hx; simp only [fault, hfit, hx, if_true]
    have hft2 : fe (prd ws) 0 a = none → fault (prd ws) (a, g) = fg (prd ws) 0 g := by
      intro hx; simp only [fault, hfit, hx, if_true]
    simp_arith [u_M, a1.1, a1.2, g1.1, g1.2]
    simp_arith [u_S, u_G, a2.1, a2.2, g2.1, g2.2]
    refine wp_for (fun _ _ => False) _ (fun i ρ μ' => μ' = μ1 ∧ ∃ r5 r6, ρ = [some F, some (eM (a, g)), some (.int (prd ws : Nat)), some (eS a), some (eG g), r5, r6, none, none] ∧ fe (prd ws) 0 a = fe (prd ws) i (a.drop i)) _ _ ⟨rfl, none, none, rfl, rfl⟩ ?_ ?_ (fun _ _ h => h.elim)
    · rintro i hi _ μ1 ⟨hμ, r5, r6, rfl, hfe⟩
      subst hμ
      obtain ⟨h', e⟩ := num_get (a.map eT) 0 i hi
      have h'' : i < a.length := by simpa using h'
      rw [e, List.getElem_map]
      have hz := hm.1.2 a[i] (List.getElem_mem h'')
      have t1 := frzT a[i]
      rw [drop_get h'', fe] at hfe
      simp_arith [t1.1, t1.2]
      refine (s_is_table (by omega) hz).mono ?_
      rintro d μ2 ⟨hμ, hd⟩
      subst hμ; subst hd
      simp_arith []
      cases hb : tabB (prd ws) a[i] with
      | true =>
        rw [hb, if_pos rfl] at hfe
        simp_arith []
        exact ⟨_, _, rfl, hfe⟩
      | false =>
        rw [hb, if_neg (by simp)] at hfe
        simp_arith []
        exact ⟨_, hft _ hfe, rfl⟩
    · rintro _ μ1 ⟨hμ, r5, r6, rfl, hfe⟩
      subst hμ
      have hlen : (num 0 (a.map eT)).length = a.length := by simp [len_num]
      rw [hlen, List.drop_length, fe] at hfe
      have hft3 := hft2 hfe
      simp_arith [u_S, u_G, a2.1, a2.2, g2.1, g2.2]
      refine wp_for (fun _ _ => False) _ (fun i ρ μ' => μ' = μ1 ∧ ∃ r5 r6 r7 r8, ρ = [some F, some (eM (a, g)), some (.int (prd ws : Nat)), some (eS a), some (eG g), r5, r6, r7, r8] ∧ fg (prd ws) 0 g = fg (prd ws) i (g.drop i)) _ _ ⟨rfl, _, _, _, _, rfl, rfl⟩ ?_ ?_ (fun _ _ h => h.elim)
      · rintro i hi _ μ1 ⟨hμ, r5, r6, r7, r8, rfl, hfg⟩
        subst hμ
        obtain ⟨h', e⟩ := num_get (g.map eS) 0 i hi
        have h'' : i < g.length := by simpa using h'
        rw [e, List.getElem_map]
        have hz := hm.2.2 g[i] (List.getElem_mem h'')
        have t1 := nbL_map frzT g[i]
        rw [drop_get h'', fg] at hfg
        simp_arith [u_S, t1.1, t1.2]
        refine wp_for (fun _ _ => False) _ (fun j ρ μ' => μ' = μ1 ∧ ∃ r6 r8, ρ = [some F, some (eM (a, g)), some (.int (prd ws : Nat)), some (eS a), some (eG g), some (.int (i : Nat)), r6, some (eS g[i]), r8] ∧ fr (prd ws) i 0 g[i] = fr (prd ws) i j (g[i].drop j)) _ _ ⟨rfl, r6, r8, by simp [u_S], rfl⟩ ?_ ?_ (fun _ _ h => h.elim)
        · rintro j hj _ μ1 ⟨hμ, r6, r8, rfl, hfr⟩
          subst hμ
          obtain ⟨j', e⟩ := num_get (g[i].map eT) 0 j hj
          have j'' : j < g[i].length := by simpa using j'
          rw [e, List.getElem_map]
          have hz := hz.2 g[i][j] (List.getElem_mem j'')
          have t1 := frzT g[i][j]
          rw [drop_get j'', fr] at hfr
          simp_arith [t1.1, t1.2]
          refine (s_is_table (by omega) hz).mono ?_
          rintro d μ3 ⟨hμ, hd⟩
          subst hμ; subst hd
          simp_arith []
          cases hb : tabB (prd ws) g[i][j] with
          | false =>
            rw [show goB (prd ws) j g[i][j] = false by simp [goB, hb], if_neg (by simp)] at hfr
            rw [hfr] at hfg
            simp_arith []
            exact ⟨_, hft3.trans hfg, by simp⟩
          | true =>
            simp_arith []
            by_cases hj0 : j = 0
            · subst hj0
              simp_arith [t1.1, t1.2, show decide (((0 + 0 : Nat) : Int) = 0) = true from rfl, show decide (((0 : Nat) : Int) = 0) = true from rfl]
              refine (s_drop_table (by omega) hn).mono ?_
              rintro d μ4 ⟨hμ, hd⟩
              subst hμ
              rw [Dr_eT] at hd
              simp_arith [hd, w_neT]
              have hgo := goB_alt (j := 0) hb
              cases hr : decide (g[i][0] = List.replicate (prd ws) []) with
              | true =>
                rw [hr] at hgo
                rw [show goB (prd ws) 0 g[i][0] = true by rw [hgo]; rfl, if_pos rfl] at hfr
                simp_arith []
                exact ⟨_, _, rfl, hfr⟩
              | false =>
                rw [hr] at hgo
                rw [show goB (prd ws) 0 g[i][0] = false by rw [hgo]; rfl, if_neg (by simp)] at hfr
                rw [hfr] at hfg
                simp_arith []
                exact ⟨_, hft3.trans hfg, by simp⟩
            · have hgo := goB_alt (j := j) hb
              rw [show goB (prd ws) j g[i][j] = true by rw [hgo]; simp [hj0], if_pos rfl] at hfr
              rw [show decide ((j : Int) = 0) = false from decide_eq_false (by omega)]
              simp_arith []
              exact ⟨_, _, rfl, hfr⟩
        · rintro _ μ1 ⟨hμ, r6, r8, rfl, hfr⟩
          subst hμ
          have hlen : (num 0 (g[i].map eT)).length = g[i].length := by simp [len_num]
          rw [hlen, List.drop_length, fr] at hfr
          rw [hfr] at hfg
          simp_arith []
          exact ⟨_, _, _, _, rfl, hfg⟩
      · rintro _ μ1 ⟨hμ, r5, r6, r7, r8, rfl, hfg⟩
        subst hμ
        have hlen : (num 0 (g.map eS)).length = g.length := by simp [len_num]
        rw [hlen, List.drop_length, fg] at hfg
        simp_arith []
        exact hft3.trans hfg
def cnd (n : Nat) (r : Row) (j : Nat) : Prop := (0 ≤ r.getD j 0 ∧ r.getD j 0 < n) ∧ (0 < j → r.getD (j - 1) 0 < r.getD j 0)
theorem rowB_iff {n : Nat} {r : Row} : rowB n r = true ↔ ∀ j, j < r.length → cnd n r j := by
  simp only [rowB, risB, Bool.and_eq_true, List.all_eq_true, decide_eq_true_eq, List.mem_range]
  constructor
  · rintro ⟨h1, h2⟩ j hj
    have h3 := h1 r[j] (List.getElem_mem hj)
    have h4 : r.getD j 0 = r[j] := by simp [List.getD, hj]
    refine ⟨by rw [h4]; omega, fun h0 => ?_⟩
    have := h2 (j - 1) (by omega)
    rwa [show j - 1 + 1 = j by omega] at this
  · intro h
    constructor
    · intro x hx
      obtain ⟨j, hj, rfl⟩ := List.getElem_of_mem hx
      have h3 := (h j hj).1
      have h4 : r.getD j 0 = r[j] := by simp [List.getD, hj]
      rw [h4] at h3
      omega
    · intro i hi
      have := (h (i + 1) (by omega)).2 (by omega)
      simpa using this
theorem s_law_is_table {k : Nat} {n : Nat} {t : Tb} (hk : 1 ≤ k) (ht : zT t) : Wp (run pp k (Str.ofString "_law_is_table") [.int n, eT t]) μ (fun d μ' => μ' = μ ∧ d = .bl (tabB n t)) X := by
  obtain ⟨k, rfl⟩ : ∃ j, k = j + 1 := ⟨k - 1, by omega⟩
  have hd := nbL_map frzR t
  rw [e__law_is_table]
  simp_arith [P50.f__law_is_table, u_T, hd.1, hd.2]
  by_cases hl : t.length = n
  · rw [show decide ((t.length : Int) = (n : Int)) = true from decide_eq_true (by omega)]
    have htb : tabB n t = t.all (rowB n) := by simp [tabB, hl]
    simp_arith [hd.1, hd.2]
    refine wp_for (fun d μ' => μ' = μ ∧ d = .bl false ∧ tabB n t = false) _ (fun i ρ μ' => μ' = μ ∧ ∃ r2 r3, ρ = [some (.int n), some (eT t), r2, r3] ∧ tabB n t = (t.drop i).all (rowB n)) _ _ ⟨rfl, none, none, by rw [u_T], htb⟩ ?_ ?_ ?_
    · rintro i hi _ μ1 ⟨hμ, r2, r3, rfl, hti⟩
      subst hμ
      have hi' : i < t.length := by simpa using hi
      simp only [List.getElem_map]
      have hz := ht.2 t[i] (List.getElem_mem hi')
      have f1 := frzR t[i]
      rw [drop_get hi', List.all_cons] at hti
      generalize hr : t[i] = r at hz f1 hti
      simp_arith [f1.1, f1.2, u_R, fzL_ints, nbL_ints]
      refine ⟨by have := hz.1; omega, ?_⟩
      rw [show ((r.length : Int) - 0).toNat = r.length by omega]
      refine wp_for (fun d μ' => μ' = μ1 ∧ d = .bl false ∧ tabB n t = false) _ (fun j ρ μ' => μ' = μ1 ∧ ∃ r3, ρ = [some (.int n), some (eT t), some (eR r), r3] ∧ ∀ l, l < j → cnd n r l) _ _ ⟨rfl, r3, by simp [u_R], by intro l hl; omega⟩ ?_ ?_ ?_
      · rintro j hj _ μ1 ⟨hμ, r3, rfl, hc⟩
        subst hμ
        have hj' : j < r.length := by simpa using hj
        have g1 := int_get r j hj'
        have hx : rowB n r = true → cnd n r j := fun h => rowB_iff.1 h j hj'
        simp only [List.getElem_map, List.getElem_range]
        rw [show ((0 : Int) + (j : Nat)) = (j : Int) by omega]
        have bad : ¬ cnd n r j → tabB n t = false := fun h => by
          rw [hti]
          cases hb : rowB n r with
          | false => rfl
          | true => exact absurd (hx hb) h
        simp_arith [u_R, fzL_ints, nbL_ints, g1]
        by_cases c1 : 0 ≤ r.getD j 0
        · rw [show decide ((0 : Int) ≤ r.getD j 0) = true from decide_eq_true c1]
          simp_arith [u_R, fzL_ints, nbL_ints, g1]
          by_cases c2 : r.getD j 0 < n
          · rw [show decide (r.getD j 0 < (n : Int)) = true from decide_eq_true c2]
            simp_arith []
            by_cases c3 : j = 0
            · subst c3
              rw [show decide ((0 : Int) < ((0 : Nat) : Int)) = false from rfl]
              simp_arith []
              refine ⟨_, rfl, ?_⟩
              intro l hl
              obtain rfl : l = 0 := by omega
              exact ⟨⟨c1, c2⟩, by omega⟩
            · rw [show decide ((0 : Int) < (j : Int)) = true from decide_eq_true (by omega)]
              have g2 := int_get r (j - 1) (by omega)
              rw [show ((j - 1 : Nat) : Int) = (j : Int) - 1 by omega] at g2
              simp_arith [u_R, fzL_ints, nbL_ints, g1, g2]
              by_cases c4 : r.getD j 0 ≤ r.getD (j - 1) 0
              · rw [show decide (r.getD j 0 ≤ r.getD (j - 1) 0) = true from decide_eq_true c4]
                simp_arith []
                exact bad (fun h => by have := h.2 (by omega); omega)
              · rw [show decide (r.getD j 0 ≤ r.getD (j - 1) 0) = false from decide_eq_false c4]
                simp_arith []
                refine ⟨_, rfl, ?_⟩
                intro l hl
                by_cases e : l = j
                · subst e; exact ⟨⟨c1, c2⟩, fun _ => by omega⟩
                · exact hc l (by omega)
          · rw [show decide (r.getD j 0 < (n : Int)) = false from decide_eq_false c2]
            simp_arith []
            exact bad (fun h => c2 h.1.2)
        · rw [show decide ((0 : Int) ≤ r.getD j 0) = false from decide_eq_false c1]
          simp_arith []
          exact bad (fun h => c1 h.1.1)
      · rintro _ μ1 ⟨hμ, r3, rfl, hc⟩
        subst hμ
        have hrow : rowB n r = true := rowB_iff.2 (fun j hj => hc j (by simpa using hj))
        rw [hrow] at hti
        simp_arith []
        exact ⟨_, _, rfl, hti⟩
      · rintro d μ1 ⟨hμ, h1, h2⟩
        subst hμ
        simp_arith [h1, h2]
    · rintro _ μ1 ⟨hμ, r2, r3, rfl, hti⟩
      subst hμ
      rw [show (t.map eR).length = t.length by simp, List.drop_length] at hti
      simp_arith [hti, List.all_nil]
    · rintro d μ1 ⟨hμ, h1, h2⟩
      subst hμ
      simp_arith [h1, h2]
  · rw [show decide ((t.length : Int) = (n : Int)) = false from decide_eq_false (by omega)]
    simp_arith [tabB, decide_eq_false hl, Bool.false_and]
end
/-! W11 -/
theorem goB_law {n j : Nat} {t : Tb} : goB n j t = !(!tabB n t || (decide (j = 0) && decide (0 < (t.filter fun r => decide (0 < r.length)).length))) := by
  have e : t.all (fun r => decide (r = [])) = !decide (0 < (t.filter fun r => decide (0 < r.length)).length) := by
    rw [Bool.eq_iff_iff]
    simp only [List.all_eq_true, decide_eq_true_eq, Bool.not_eq_true', decide_eq_false_iff_not, Nat.not_lt, Nat.le_zero, List.length_eq_zero_iff, List.filter_eq_nil_iff]
  rw [goB, e]
  cases tabB n t <;> by_cases hj : j = 0 <;> simp [hj]
theorem fit_alt {a : List Tb} {g : List (List Tb)} : fitB (a, g) = (decide (0 < a.length) && decide (a.length < 14) && decide (g.length = a.length) && !decide (0 < (g.filter fun r => decide (r.length ≠ a.length)).length)) := by
  have e : (g.all fun r => decide (r.length = a.length)) = !decide (0 < (g.filter fun r => decide (r.length ≠ a.length)).length) := by
    rw [Bool.eq_iff_iff]
    simp only [List.all_eq_true, decide_eq_true_eq, Bool.not_eq_true', decide_eq_false_iff_not, Nat.not_lt, Nat.le_zero, List.length_eq_zero_iff, List.filter_eq_nil_iff]
    constructor
    · intro h x hx; have := h x hx; simpa using this
    · intro h x hx; have := h x hx; simpa using this
  have e2 : decide (a.length ≤ 13) = decide (a.length < 14) := by
    rw [Bool.eq_iff_iff]; simp only [decide_eq_true_eq]; omega
  have e3 : decide (1 ≤ a.length) = decide (0 < a.length) := rfl
  simp only [fitB]
  rw [e, e2, e3]
section
variable {μ : Sto} {X : Str → List D → Sto → Prop}
theorem s_law_fault {k : Nat} {n : Nat} {m : Mc} (hk : 3 ≤ k) (hm : zM m) : Wp (run pp k (Str.ofString "_law_fault") [.int n, eM m]) μ (fun d μ' => μ' = μ ∧ d = enc (fault n m)) X := by
  obtain ⟨k, rfl⟩ : ∃ j, k = j + 3 := ⟨k - 3, by omega⟩
  obtain ⟨a, g⟩ := m
  have a1 := frzS a
  have g1 := frzG g
  have a2 := nbL_map frzT a
  have g2 := nbL_map frzS g
  have hz1 := hm.1.1
  have hz2 := hm.2.1
  simp only at hz1 hz2
  rw [e__law_fault]
  simp_arith [P50.f__law_fault, u_M, a1.1, a1.2, g1.1, g1.2]
  simp_arith [u_S, u_G, a2.1, a2.2, g2.1, g2.2]
  have bad : fitB (a, g) = false → enc (fault n (a, g)) = .tup [.int (-1), .int (-1)] := by
    intro h; simp only [fault, h]; rfl
  rw [fit_alt] at bad
  by_cases c1 : 0 < a.length
  rotate_left
  · rw [show decide ((0 : Int) < (a.length : Int)) = false from decide_eq_false (by omega)]
    simp_arith []
    rw [bad (by simp [c1])]
  rw [show decide ((0 : Int) < (a.length : Int)) = true from decide_eq_true (by omega)]
  simp_arith [u_S, u_G, a2.1, a2.2, g2.1, g2.2]
  by_cases c2 : a.length < 14
  rotate_left
  · rw [show decide ((a.length : Int) < 14) = false from decide_eq_false (by omega)]
    simp_arith []
    rw [bad (by simp [c2])]
  rw [show decide ((a.length : Int) < 14) = true from decide_eq_true (by omega)]
  simp_arith [u_S, u_G, a2.1, a2.2, g2.1, g2.2]
  by_cases c3 : g.length = a.length
  rotate_left
  · rw [show decide ((g.length : Int) = (a.length : Int)) = false from decide_eq_false (by omega)]
    simp_arith []
    rw [bad (by simp [c3])]
  rw [show decide ((g.length : Int) = (a.length : Int)) = true from decide_eq_true (by omega)]
  simp_arith [u_S, u_G, a2.1, a2.2, g2.1, g2.2]
  refine wp_mapF eS (fun r => decide (r.length ≠ a.length)) g [] _ (by simp [line_eq]; omega) ?_ ?_
  · intro r hr
    have h3 := frzS r
    have h4 := nbL_map frzT r
    simp_arith [u_S, h4.1, h4.2, a2.1, a2.2]
    by_cases c : r.length = a.length
    · rw [show decide ((r.length : Int) = (a.length : Int)) = true from decide_eq_true (by omega)]
      simp_arith []
      simp [c]
    · rw [show decide ((r.length : Int) = (a.length : Int)) = false from decide_eq_false (by omega)]
      simp_arith [h4.1, u_S, h4.2]
      simp [c, u_S]
  have g3 := nbL_map frzS (g.filter fun r => decide (r.length ≠ a.length))
  simp_arith [g3.2]
  by_cases c4 : 0 < (g.filter fun r => decide (r.length ≠ a.length)).length
  · rw [show decide ((0 : Int) < ((g.filter fun r => decide (r.length ≠ a.length)).length : Int)) = true from decide_eq_true (by omega)]
    simp_arith []
    rw [bad (by simp only [decide_eq_true c4, Bool.not_true, Bool.and_false])]
  rw [show decide ((0 : Int) < ((g.filter fun r => decide (r.length ≠ a.length)).length : Int)) = false from decide_eq_false (by omega)]
  have hfit : fitB (a, g) = true := by
    rw [fit_alt, decide_eq_false c4, decide_eq_true c1, decide_eq_true c2, decide_eq_true c3]; rfl
  have hgl : ∀ r ∈ g, r.length = a.length := by
    have := hfit
    simp only [fitB, Bool.and_eq_true, List.all_eq_true, decide_eq_true_eq] at this
    exact this.2
  have hft : ∀ x, fe n 0 a = some x → fault n (a, g) = some x := by
    intro x hx; simp only [fault, hfit, hx, if_true]
  have hft2 : fe n 0 a = none → fault n (a, g) = fg n 0 g := by
    intro hx; simp only [fault, hfit, hx, if_true]
  simp_arith [u_S, u_G, a2.1, a2.2, g2.1, g2.2]
  refine ⟨by omega, ?_⟩
  rw [show ((a.length : Int) - 0).toNat = a.length by omega]
  refine wp_for (fun d μ' => μ' = μ ∧ d = enc (fault n (a, g))) _ (fun i ρ μ' => μ' = μ ∧ ∃ r4 r5 r6 r7, ρ = [some (.int n), some (eM (a, g)), some (eS a), some (eG g), r4, r5, r6, r7] ∧ fe n 0 a = fe n i (a.drop i)) _ _ ⟨rfl, none, none, none, none, by simp only [u_M, u_S, u_G], rfl⟩ ?_ ?_ ?_
  · rintro i hi _ μ1 ⟨hμ, r4, r5, r6, r7, rfl, hfe⟩
    subst hμ
    have hi' : i < a.length := by simpa using hi
    simp only [List.getElem_map, List.getElem_range]
    rw [show ((0 : Int) + (i : Nat)) = (i : Int) by omega]
    have hz := hm.1.2 a[i] (List.getElem_mem hi')
    have t1 := frzT a[i]
    have t2 := eL_get eT a i hi'
    rw [drop_get hi', fe] at hfe
    simp_arith [u_S, a2.1, a2.2, t2, t1.1, t1.2]
    refine (s_law_is_table (by omega) hz).mono ?_
    rintro d μ2 ⟨hμ, hd⟩
    subst hμ; subst hd
    simp_arith []
    cases hb : tabB n a[i] with
    | true =>
      rw [hb, if_pos rfl] at hfe
      simp_arith []
      exact ⟨_, _, _, _, rfl, hfe⟩
    | false =>
      rw [hb, if_neg (by simp)] at hfe
      simp_arith []
      rw [hft _ hfe]; rfl
  · rintro _ μ1 ⟨hμ, r4, r5, r6, r7, rfl, hfe⟩
    subst hμ
    have hlen : ((List.range a.length).map fun i => D.int (0 + (i : Nat))).length = a.length := by simp
    rw [hlen, List.drop_length, fe] at hfe
    have hft3 := hft2 hfe
    simp_arith [u_S, a2.1, a2.2]
    refine ⟨by omega, ?_⟩
    rw [show ((a.length : Int) - 0).toNat = a.length by omega]
    refine wp_for (fun d μ' => μ' = μ1 ∧ d = enc (fault n (a, g))) _ (fun i ρ μ' => μ' = μ1 ∧ ∃ r4 r5 r6 r7, ρ = [some (.int n), some (eM (a, g)), some (eS a), some (eG g), r4, r5, r6, r7] ∧ fg n 0 g = fg n i (g.drop i)) _ _ ⟨rfl, r4, r5, r6, r7, by simp only [u_S], rfl⟩ ?_ ?_ ?_
    · rintro i hi _ μ1 ⟨hμ, r4, r5, r6, r7, rfl, hfg⟩
      subst hμ
      have hi' : i < g.length := by rw [c3]; simpa using hi
      simp only [List.getElem_map, List.getElem_range]
      rw [show ((0 : Int) + (i : Nat)) = (i : Int) by omega]
      have hz := hm.2.2 g[i] (List.getElem_mem hi')
      have hl := hgl g[i] (List.getElem_mem hi')
      have t1 := nbL_map frzT g[i]
      have t2 := eL_get eS g i hi'
      rw [drop_get hi', fg] at hfg
      simp_arith [u_S, a2.1, a2.2]
      refine ⟨by omega, ?_⟩
      rw [show ((a.length : Int) - 0).toNat = a.length by omega]
      refine wp_for (fun d μ' => μ' = μ1 ∧ d = enc (fault n (a, g))) _ (fun j ρ μ' => μ' = μ1 ∧ ∃ r4 r6 r7, ρ = [some (.int n), some (eM (a, g)), some (eS a), some (eG g), r4, some (.int i), r6, r7] ∧ fr n i 0 g[i] = fr n i j (g[i].drop j)) _ _ ⟨rfl, r4, r6, r7, by simp only [u_S], rfl⟩ ?_ ?_ ?_
      · rintro j hj _ μ1 ⟨hμ, r4, r6, r7, rfl, hfr⟩
        subst hμ
        have hj' : j < g[i].length := by rw [hl]; simpa using hj
        simp only [List.getElem_map, List.getElem_range]
        rw [show ((0 : Int) + (j : Nat)) = (j : Int) by omega]
        have hz := hz.2 g[i][j] (List.getElem_mem hj')
        have v1 := frzT g[i][j]
        have v3 := nbL_map frzR g[i][j]
        have v2 := eL_get eT g[i] j hj'
        rw [drop_get hj', fr] at hfr
        simp_arith [u_G, u_S, g2.1, g2.2, t2, t1.1, t1.2, v2, v1.1, v1.2]
        refine (s_law_is_table (by omega) hz).mono ?_
        rintro d μ2 ⟨hμ, hd⟩
        subst hμ; subst hd
        simp_arith []
        have hgo := goB_law (n := n) (j := j) (t := g[i][j])
        cases hb : tabB n g[i][j] with
        | false =>
          rw [show goB n j g[i][j] = false by rw [hgo, hb]; rfl, if_neg (by simp)] at hfr
          rw [hfr] at hfg
          simp_arith []
          rw [hft3, hfg]; rfl
        | true =>
          simp_arith []
          by_cases hj0 : j = 0
          · rw [show decide ((j : Int) = 0) = true from decide_eq_true (by omega)]
            simp_arith [u_G, u_S, g2.1, g2.2, t2, t1.1, t1.2, v2, v1.1, v1.2]
            simp_arith [u_T, v3.1, v3.2]
            refine wp_mapF eR (fun r => decide (0 < r.length)) g[i][j] [] _ (by have := hz.1; simp [line_eq]; omega) ?_ ?_
            · intro r hr
              simp_arith [u_R, nbL_ints, fzL_ints]
              by_cases c : 0 < r.length
              · rw [show decide ((0 : Int) < (r.length : Int)) = true from decide_eq_true (by omega)]
                simp_arith [nbL_ints, fzL_ints]
                simp [c]
              · rw [show decide ((0 : Int) < (r.length : Int)) = false from decide_eq_false (by omega)]
                simp_arith []
                simp [c]
            have v4 := nbL_map frzR (g[i][j].filter fun r => decide (0 < r.length))
            simp_arith [v4.2]
            by_cases c : 0 < (g[i][j].filter fun r => decide (0 < r.length)).length
            · rw [show goB n j g[i][j] = false by rw [hgo, hb, decide_eq_true c, decide_eq_true hj0]; rfl, if_neg (by simp)] at hfr
              rw [hfr] at hfg
              rw [show decide ((0 : Int) < ((g[i][j].filter fun r => decide (0 < r.length)).length : Int)) = true from decide_eq_true (by omega)]
              simp_arith []
              rw [hft3, hfg]; rfl
            · rw [show goB n j g[i][j] = true by rw [hgo, hb, decide_eq_false c, decide_eq_true hj0]; rfl, if_pos rfl] at hfr
              rw [show decide ((0 : Int) < ((g[i][j].filter fun r => decide (0 < r.length)).length : Int)) = false from decide_eq_false (by omega)]
              simp_arith []
              exact ⟨_, _, _, rfl, hfr⟩
          · rw [show decide ((j : Int) = 0) = false from decide_eq_false (by omega)]
            rw [show goB n j g[i][j] = true by rw [hgo, hb, decide_eq_false hj0]; rfl, if_pos rfl] at hfr
            simp_arith []
            exact ⟨_, _, _, rfl, hfr⟩
      · rintro _ μ1 ⟨hμ, r4, r6, r7, rfl, hfr⟩
        subst hμ
        have hlen : ((List.range a.length).map fun i => D.int (0 + (i : Nat))).length = g[i].length := by simp [hl]
        rw [hlen, List.drop_length, fr] at hfr
        rw [hfr] at hfg
        simp_arith []
        exact ⟨_, _, _, _, rfl, hfg⟩
      · rintro d μ1 ⟨hμ, h1⟩
        subst hμ
        simp_arith [h1]
    · rintro _ μ1 ⟨hμ, r4, r5, r6, r7, rfl, hfg⟩
      subst hμ
      have hlen : ((List.range a.length).map fun i => D.int (0 + (i : Nat))).length = g.length := by simp [c3]
      rw [hlen, List.drop_length, fg] at hfg
      simp_arith []
      rw [hft3, hfg]; rfl
    · rintro d μ1 ⟨hμ, h1⟩
      subst hμ
      simp_arith [h1]
  · rintro d μ1 ⟨hμ, h1⟩
    subst hμ
    simp_arith [h1]
end
/-! W12 -/
def hanK (Φ : Cfg) (i : Nat) (hs : List S) (ρ : Env) (k : Str) (fs : List D) : Option Bool → M Fl
  | some true => nox (M.bind (exSs Φ hs (ρ.set i (some (.exn k fs)))) (outX i))
  | some false => M.exc k fs
  | none => M.bad
section
variable {Ψ : Cfg} {ρ : Env} {μ : Sto} {X : Str → List D → Sto → Prop}
theorem w_try {Q : Fl → Sto → Prop} {c : Str} {i : Nat} {s : S} {hs : List S} : Wp (exS Ψ (.tryS c i s hs) ρ) μ Q X = ((allNb ρ && decide (i < ρ.length)) = true ∧ Wp (exS Ψ s ρ) μ Q (fun k fs μ1 => Wp (hanK Ψ i hs ρ k fs (Ψ.xi.sub k c)) μ1 Q X)) := by
  simp only [exS, tryK, wp_guard]
  congr 1
  unfold Wp
  cases h : exS Ψ s ρ μ with
  | ok a μ1 => simp [h]
  | bad => simp [h]
  | exc k fs μ1 =>
    simp only [h]
    cases hs : Ψ.xi.sub k c with
    | none => rfl
    | some b => cases b <;> rfl
theorem w_hanT {Q : Fl → Sto → Prop} {i : Nat} {hs : List S} {k : Str} {fs : List D} : Wp (hanK Ψ i hs ρ k fs (some true)) μ Q X = Wp (exSs Ψ hs (ρ.set i (some (.exn k fs)))) μ (fun fl μ1 => Wp (outX i fl) μ1 Q nX) nX := by
  simp only [hanK, wp_nox, wp_bind]
theorem w_outR {Q : Fl → Sto → Prop} {i : Nat} {d : D} : Wp (outX i (.rt d)) μ Q X = Q (.rt d) μ := by
  simp only [outX, wp_ret]
variable {Q : D → Sto → Prop}
theorem w_fldi {k : Nat} {a b c d f : Option D} {x y : D} : Wp (evE (Φ k) (.fld 4 (Str.ofString "i")) [a, b, c, d, some (.exn (Str.ofString "BadMachine") [x, y]), f]) μ Q X = Q x μ := by
  rw [show evE (Φ k) (.fld 4 (Str.ofString "i")) [a, b, c, d, some (.exn (Str.ofString "BadMachine") [x, y]), f] = M.ret x by with_unfolding_all rfl, wp_ret]
theorem w_fldj {k : Nat} {a b c d f : Option D} {x y : D} : Wp (evE (Φ k) (.fld 4 (Str.ofString "j")) [a, b, c, d, some (.exn (Str.ofString "BadMachine") [x, y]), f]) μ Q X = Q y μ := by
  rw [show evE (Φ k) (.fld 4 (Str.ofString "j")) [a, b, c, d, some (.exn (Str.ofString "BadMachine") [x, y]), f] = M.ret y by with_unfolding_all rfl, wp_ret]
theorem w_isE1 {k : Nat} {a b c d f : Option D} {x y : D} : Wp (evE (Φ k) (.isE 4 (Str.ofString "WayError")) [a, b, c, d, some (.exn (Str.ofString "BadMachine") [x, y]), f]) μ Q X = Q (.bl true) μ := by
  rw [show evE (Φ k) (.isE 4 (Str.ofString "WayError")) [a, b, c, d, some (.exn (Str.ofString "BadMachine") [x, y]), f] = M.ret (.bl true) by with_unfolding_all rfl, wp_ret]
theorem w_isE2 {k : Nat} {a b c d f : Option D} {x y : D} : Wp (evE (Φ k) (.isE 4 (Str.ofString "BadPlain")) [a, b, c, d, some (.exn (Str.ofString "BadMachine") [x, y]), f]) μ Q X = Q (.bl false) μ := by
  rw [show evE (Φ k) (.isE 4 (Str.ofString "BadPlain")) [a, b, c, d, some (.exn (Str.ofString "BadMachine") [x, y]), f] = M.ret (.bl false) by with_unfolding_all rfl, wp_ret]
theorem w_isE3 {k : Nat} {a b c d f : Option D} {x y : D} : Wp (evE (Φ k) (.isE 4 (Str.ofString "BadTable")) [a, b, c, d, some (.exn (Str.ofString "BadMachine") [x, y]), f]) μ Q X = Q (.bl false) μ := by
  rw [show evE (Φ k) (.isE 4 (Str.ofString "BadTable")) [a, b, c, d, some (.exn (Str.ofString "BadMachine") [x, y]), f] = M.ret (.bl false) by with_unfolding_all rfl, wp_ret]
theorem sub_bm {k : Nat} : (Φ k).xi.sub (Str.ofString "BadMachine") (Str.ofString "BadMachine") = some true := by with_unfolding_all rfl
theorem w_isN1 : Wp (cmpD .isN .non .non) μ Q X = Q (.bl true) μ := by
  rw [show cmpD .isN .non .non = M.ret (.bl true) from rfl, wp_ret]
theorem s_law_told {k : Nat} {F : D} {ws : List Nat} {m : Mc} (hF : Fd F ws) (hk : 9 ≤ k) (hm : zM m) : Wp (run pp k (Str.ofString "_law_told") [F, eM m]) μ (Pu (· = enc (fault (prd ws) m)) μ) X := by
  obtain ⟨k, rfl⟩ : ∃ j, k = j + 9 := ⟨k - 9, by omega⟩
  have hf : F.nb = true ∧ F.fz = F := by cases hF <;> exact ⟨rfl, rfl⟩
  have h0 := frzM m
  rw [e__law_told]
  simp_arith [P50.f__law_told, hf.1, hf.2, h0.1, h0.2]
  refine (anM (k + 8) m _ _ (by omega) hm).mono ?_
  rintro d μ1 ⟨hμ, hd⟩
  subst hμ
  simp_arith [hd, w_try, hf.1, hf.2, h0.1, h0.2, allNb]
  have h := s_check_machine (μ := μ1) hF (show 8 ≤ k + 8 by omega) hm
  generalize hr : run pp (k + 8) (Str.ofString "check_machine") [F, eM m] = r at h
  have hcases : (r μ1 = .ok .non μ1 ∧ fault (prd ws) m = none) ∨ (∃ x, r μ1 = .exc (Str.ofString "BadMachine") [.int x.1, .int x.2] μ1 ∧ fault (prd ws) m = some x) := by
    unfold Wp at h
    cases hr1 : r μ1 with
    | ok a μ2 =>
      simp only [hr1] at h
      obtain ⟨h1, h2, h3⟩ := h
      rw [h1, h3]
      exact .inl ⟨rfl, h2⟩
    | exc c fs μ2 =>
      simp only [hr1] at h
      obtain ⟨h1, h2, x, h3, h4⟩ := h
      rw [h1, h2, h4]
      exact .inr ⟨x, rfl, h3⟩
    | bad => simp only [hr1] at h
  rcases hcases with ⟨h1, h2⟩ | ⟨x, h1, h2⟩
  · rw [wp_ok h1]
    simp_arith [h0.1, h0.2, w_isN1, w_eqM, atI_1, hf.1, hf.2, h2, enc]
  · have hx : ∀ (Q : D → Sto → Prop) X, Wp r μ1 Q X = X (Str.ofString "BadMachine") [.int x.1, .int x.2] μ1 := by
      intro Q X
      unfold Wp
      rw [h1]
    rw [hx]
    simp_arith [sub_bm, w_hanT, w_isE1, w_isE2, w_isE3, w_fldi, w_fldj, w_outR, h0.1, h0.2, w_eqM, atI_1, hf.1, hf.2, h2, enc]
end
/-! W13 -/
inductive Sm : Nat → D → Prop where
  | non (j : Nat) : Sm j .non
  | int (j : Nat) (i : Int) : Sm j (.int i)
  | tup (j : Nat) (ds : List D) (h : ds.length ≤ 100) (t : ∀ d ∈ ds, Sm j d) : Sm (j + 1) (.tup ds)
  | lst (j : Nat) (ds : List D) (h : ds.length ≤ 100) (t : ∀ d ∈ ds, Sm j d) : Sm (j + 1) (.lst false ds)
theorem Sm.fz : ∀ (j : Nat) (d : D), Sm j d → d.nb = true ∧ d.fz = d
  | _, _, .non j => ⟨rfl, rfl⟩
  | _, _, .int j i => ⟨rfl, rfl⟩
  | _, _, .tup j ds h t => by
    have := nbL_of (fun d hd => Sm.fz j d hd) t
    simp [D.nb, D.fz, this.1, this.2]
  | _, _, .lst j ds h t => by
    have := nbL_of (fun d hd => Sm.fz j d hd) t
    simp [D.nb, D.fz, this.1, this.2]
section
variable {μ : Sto} {X : Str → List D → Sto → Prop} {Q : D → Sto → Prop}
theorem w_isNi {i : Int} : Wp (cmpD .isN (.int i) .non) μ Q X = Q (.bl false) μ := by
  rw [show cmpD .isN (.int i) .non = M.ret (.bl false) from rfl, wp_ret]
theorem w_neff : Wp (cmpD .ne (.bl false) (.bl false)) μ Q X = Q (.bl false) μ := by
  rw [show cmpD .ne (.bl false) (.bl false) = M.ret (.bl false) by with_unfolding_all rfl, wp_ret]
theorem w_nett : Wp (cmpD .ne (.bl true) (.bl true)) μ Q X = Q (.bl false) μ := by
  rw [show cmpD .ne (.bl true) (.bl true) = M.ret (.bl false) by with_unfolding_all rfl, wp_ret]
end
theorem all_true (ds : List D) : (ds.map fun _ => D.bl true) = (ds.map (fun _ => true)).map D.bl := by simp
theorem s_law_same : ∀ (j : Nat) (d : D), Sm j d → ∀ (k : Nat) (μ : Sto) (X : Str → List D → Sto → Prop), j + 1 ≤ k → Wp (run pp k (Str.ofString "_law_same") [d, d]) μ (fun r μ' => μ' = μ ∧ r = .bl true) X := by
  have seqs : ∀ (j : Nat) (ds : List D) (h : ds.length ≤ 100) (t : ∀ d ∈ ds, Sm j d) (ih : ∀ d ∈ ds, ∀ (k : Nat) (μ : Sto) (X : Str → List D → Sto → Prop), j + 1 ≤ k → Wp (run pp k (Str.ofString "_law_same") [d, d]) μ (fun r μ' => μ' = μ ∧ r = .bl true) X) (k : Nat) (hk : j + 1 ≤ k) (y : D) (hy : y = .tup ds ∨ y = .lst false ds) (μ : Sto) (X : Str → List D → Sto → Prop) (Q : List D → Sto → Prop) (hq : Q (ds.map fun _ => .bl true) μ),
      Wp (mapC (fun x => bdy (Φ k) none (.call (Str.ofString "_law_same") [(.idx (.var 0) (.var 2)), (.idx (.var 1) (.var 2))]) (some [some y, some y, some x])) (List.map (fun i => D.int (0 + (i : Nat))) (List.range ds.length)) []) μ Q X := by
    intro j ds h t ih k hk y hy μ X Q hq
    have hf := nbL_of (fun d hd => Sm.fz j d hd) t
    refine wp_mapV (fun i : Nat => D.int (0 + (i : Nat))) (fun _ => .bl true) (List.range ds.length) [] _ (by simp [line_eq]; omega) ?_ ?_
    · intro i hi
      have hi := List.mem_range.1 hi
      have g : L2.atI ds ((0 : Int) + (i : Nat)) = some ds[i] := by
        rw [show ((0 : Int) + (i : Nat)) = (i : Int) by omega, atI_nat]; simp [hi]
      have hm := List.getElem_mem hi
      have f1 := Sm.fz j _ (t _ hm)
      rcases hy with rfl | rfl
      · simp_arith [hf.1, hf.2, g, f1.1, f1.2]
        refine (ih _ hm k _ _ hk).mono ?_
        rintro d μ1 ⟨hμ, hd⟩
        subst hμ; subst hd
        exact ⟨rfl, rfl⟩
      · simp_arith [hf.1, hf.2, g, f1.1, f1.2]
        refine (ih _ hm k _ _ hk).mono ?_
        rintro d μ1 ⟨hμ, hd⟩
        subst hμ; subst hd
        exact ⟨rfl, rfl⟩
    · rw [List.nil_append, show (List.range ds.length).map (fun _ => D.bl true) = ds.map (fun _ => .bl true) by simp [List.map_const']]
      exact hq
  intro j d h
  induction h with
  | non j =>
    intro k μ X hk
    obtain ⟨k, rfl⟩ : ∃ j, k = j + 1 := ⟨k - 1, by omega⟩
    rw [e__law_same]
    simp_arith [P50.f__law_same, hasTy, isTy, w_isN1]
  | int j i =>
    intro k μ X hk
    obtain ⟨k, rfl⟩ : ∃ j, k = j + 1 := ⟨k - 1, by omega⟩
    rw [e__law_same]
    simp_arith [P50.f__law_same, hasTy, isTy, w_isNi]
  | tup j ds h t ih =>
    intro k μ X hk
    obtain ⟨k, rfl⟩ : ∃ j, k = j + 1 := ⟨k - 1, by omega⟩
    have hf := nbL_of (fun d hd => Sm.fz j d hd) t
    rw [e__law_same]
    simp_arith [P50.f__law_same, hasTy, isTy, w_neff, w_nett, hf.1, hf.2]
    refine ⟨by omega, ?_⟩
    rw [show ((ds.length : Int) - 0).toNat = ds.length by omega]
    refine seqs j ds h t ih k (by omega) _ (.inl rfl) _ _ _ ?_
    (try simp_arith [])
    rw [all_true, show D.fzL ((ds.map (fun _ => true)).map D.bl) = (ds.map (fun _ => true)).map D.bl by rw [fzL_map]; rfl, w_all]
    simp
  | lst j ds h t ih =>
    intro k μ X hk
    obtain ⟨k, rfl⟩ : ∃ j, k = j + 1 := ⟨k - 1, by omega⟩
    have hf := nbL_of (fun d hd => Sm.fz j d hd) t
    rw [e__law_same]
    simp_arith [P50.f__law_same, hasTy, isTy, w_neff, w_nett, hf.1, hf.2]
    refine ⟨by omega, ?_⟩
    rw [show ((ds.length : Int) - 0).toNat = ds.length by omega]
    refine seqs j ds h t ih k (by omega) _ (.inr rfl) _ _ _ ?_
    (try simp_arith [])
    rw [all_true, show D.fzL ((ds.map (fun _ => true)).map D.bl) = (ds.map (fun _ => true)).map D.bl by rw [fzL_map]; rfl, w_all]
    simp
theorem sm_enc (x : Option (Int × Int)) : Sm 1 (enc x) := by
  cases x with
  | none => exact .non 1
  | some x => exact .tup 0 _ (by simp) (by intro d hd; simp at hd; rcases hd with rfl | rfl <;> exact .int 0 _)
/-! ### the feed -/
def FO (μ : Sto) : Prop := ∃ (s : List Int) (a b c : Int), μ = [[.lst false (s.map .int), .int a, .int b, .int c]] ∧ 0 ≤ a
section
variable {μ : Sto} {X : Str → List D → Sto → Prop} {Q : D → Sto → Prop} {QU : Unit → Sto → Prop}
theorem w_ixR {ds : List D} {i : Int} : Wp (idxD (.ref 0) (.int i)) [ds] Q X = Wp (ofO (L2.atI ds i)) [ds] Q X := by
  simp only [Wp, idxD, List.getElem?_cons_zero, getD']
  cases L2.atI ds i <;> rfl
theorem w_setR1 {a b c e d : D} : Wp (setR (.ref 0) (.int 1) d) [[a, b, c, e]] QU X = QU () [[a, d, c, e]] := wp_ok (by with_unfolding_all rfl)
theorem w_setR2 {a b c e d : D} : Wp (setR (.ref 0) (.int 2) d) [[a, b, c, e]] QU X = QU () [[a, b, d, e]] := wp_ok (by with_unfolding_all rfl)
theorem w_setR3 {a b c e d : D} : Wp (setR (.ref 0) (.int 3) d) [[a, b, c, e]] QU X = QU () [[a, b, c, d]] := wp_ok (by with_unfolding_all rfl)
theorem w_getR1 {a b c e : D} : Wp (getR (.ref 0) (.int 1)) [[a, b, c, e]] Q X = Q b [[a, b, c, e]] := wp_ok (by with_unfolding_all rfl)
theorem atI_3 {α : Type} (a b c d : α) (as : List α) : L2.atI (a :: b :: c :: d :: as) 3 = some d := by
  have := atI_nat (a :: b :: c :: d :: as) 3
  simpa using this
theorem b64a : (-B64 < 48271 ∧ 48271 < B64) = True := by simp [B64]
theorem b64b : (-B64 < 69621 ∧ 69621 < B64) = True := by simp [B64]
theorem b64c : (-B64 < 16807 ∧ 16807 < B64) = True := by simp [B64]
theorem draw_rest {k many : Nat} (hm : 0 < many) (hm2 : many < 1073741824) (s : List Int) (a b c : Int) (ha : 0 ≤ a) (r2 : Option D) : Wp (exSs (Φ k) P50.f__law_draw.body.tail [some (.ref 0), some (.int many), r2, none, none]) [[.lst false (s.map .int), .int a, .int b, .int c]] (fun fl μ' => ∃ i : Nat, fl = .rt (.int i) ∧ i < many ∧ FO μ') X := by
  simp_arith [P50.f__law_draw, List.tail_cons, w_ixR, atI_2, atI_3]
  by_cases hb : 0 < b
  · rw [decide_eq_true hb]
    simp_arith [w_ixR, atI_2, atI_3, w_setR2, w_setR3]
    refine ⟨by omega, by omega, (b % many).toNat, ?_, ?_, s, a, _, c, rfl, ha⟩
    · have := Int.emod_nonneg b (show (many : Int) ≠ 0 by omega)
      rw [Int.toNat_of_nonneg this]
    · have h1 := Int.emod_nonneg b (show (many : Int) ≠ 0 by omega)
      have h2 := Int.emod_lt_of_pos b (show (0 : Int) < many by omega)
      omega
  · rw [decide_eq_false hb]
    simp_arith [w_ixR, atI_2, atI_3, w_setR2, w_setR3, b64c, or_true, true_or]
    have h1 := Int.emod_nonneg (c * 16807 + 12345) (show (2147483647 : Int) ≠ 0 by omega)
    have h2 := Int.emod_lt_of_pos (c * 16807 + 12345) (show (0 : Int) < 2147483647 by omega)
    refine ⟨by omega, .inl (by simp only [B64]; omega), by omega, by omega, by omega, ?_⟩
    generalize ((c * 16807 + 12345) % 2147483647 * ((c * 16807 + 12345) % 2147483647) + (c * 16807 + 12345) % 2147483647) % 2147483629 / 11 = z
    refine ⟨(z % many).toNat, ?_, ?_, s, a, b, _, rfl, ha⟩
    · have := Int.emod_nonneg z (show (many : Int) ≠ 0 by omega)
      rw [Int.toNat_of_nonneg this]
    · have h1 := Int.emod_nonneg z (show (many : Int) ≠ 0 by omega)
      have h2 := Int.emod_lt_of_pos z (show (0 : Int) < many by omega)
      omega
end
/-! W14 -/
theorem draw_cut : P50.f__law_draw.body = (.ife (.and (.cmp .eq (.idx (.var 0) (.int 2)) (.int 0)) (.cmp .lt (.idx (.var 0) (.int 1)) (.blt .len (.idx (.var 0) (.int 0))))) [.set true (.nm 2) (.blt .abs (.blt .int (.idx (.idx (.var 0) (.int 0)) (.idx (.var 0) (.int 1))))), .raug (.var 0) (.int 1) .add (.int 1), .ife (.cmp .ge (.var 2) (.bin .pow (.int 10) (.int 18))) [.rput (.var 0) (.int 2) (.var 2)] [.rput (.var 0) (.int 3) (.bin .mod (.blt .int (.bin .add (.bin .add (.bin .mul (.idx (.var 0) (.int 3)) (.int 48271)) (.bin .mul (.var 2) (.int 69621))) (.idx (.var 0) (.int 1)))) (.int 2147483647))]] []) :: P50.f__law_draw.body.tail := rfl
def isN (m : Nat) (d : D) : Prop := ∃ i : Nat, d = .int i ∧ i < m
section
variable {μ : Sto} {X : Str → List D → Sto → Prop}
theorem s_draw {k many : Nat} (hk : 1 ≤ k) (hf : FO μ) (hm : 0 < many) (hm2 : many < 1073741824) : Wp (run pp k (Str.ofString "_law_draw") [.ref 0, .int many]) μ (fun d μ' => FO μ' ∧ ∃ i : Nat, d = .int i ∧ i < many) X := by
  obtain ⟨k, rfl⟩ : ∃ j, k = j + 1 := ⟨k - 1, by omega⟩
  obtain ⟨s, a, b, c, rfl, ha⟩ := hf
  have rest : ∀ (a b c : Int) (ha : 0 ≤ a) (r2 : Option D), Wp (exSs (Φ k) P50.f__law_draw.body.tail [some (.ref 0), some (.int many), r2, none, none]) [[.lst false (s.map .int), .int a, .int b, .int c]] (fun a μ' => Wp (endFl a) μ' (fun d μ' => FO μ' ∧ ∃ i : Nat, d = .int i ∧ i < many) X) X := by
    intro a b c ha r2
    refine (draw_rest hm hm2 s a b c ha r2).mono ?_
    rintro _ μ1 ⟨i, rfl, hi, hfo⟩
    simp_arith []
    exact ⟨hfo, i, rfl, hi⟩
  rw [e__law_draw, draw_cut]
  simp_arith [w_ixR, atI_0, atI_1, atI_2, atI_3]
  by_cases hb : b = 0
  · rw [decide_eq_true hb]
    simp_arith [w_ixR, atI_0, atI_1, atI_2, atI_3, nbL_ints, fzL_ints]
    by_cases hs : a < s.length
    · rw [decide_eq_true hs]
      obtain ⟨j, rfl⟩ : ∃ j : Nat, a = j := ⟨a.toNat, by omega⟩
      have hj : j < s.length := by omega
      have g := int_get s j hj
      simp_arith [w_ixR, atI_0, atI_1, atI_2, atI_3, nbL_ints, fzL_ints, g, w_getR1, augD, w_setR1, w_pow]
      refine ⟨by simp only [B64]; omega, ?_⟩
      generalize (if s.getD j 0 < 0 then -s.getD j 0 else s.getD j 0) = cell
      generalize (10 : Int) ^ (18 : Int).toNat = big
      by_cases hc : big ≤ cell
      · rw [decide_eq_true hc]
        simp_arith [w_setR2]
        exact rest _ _ _ (by omega) _
      · rw [decide_eq_false hc]
        simp_arith [w_ixR, atI_0, atI_1, atI_2, atI_3, b64a, b64b, or_true, w_setR3]
        exact ⟨by omega, rest _ _ _ (by omega) _⟩
    · rw [decide_eq_false hs]
      simp_arith []
      exact rest _ _ _ ha _
  · rw [decide_eq_false hb]
    simp_arith []
    exact rest _ _ _ ha _
theorem name0 (k : Nat) (μ : Sto) : run pp (k + 1) (Str.ofString "_law_name") [.int 0] μ = .ok (.str (Str.ofString "a")) μ := by with_unfolding_all rfl
theorem name1 (k : Nat) (μ : Sto) : run pp (k + 1) (Str.ofString "_law_name") [.int 1] μ = .ok (.str (Str.ofString "bo")) μ := by with_unfolding_all rfl
theorem name2 (k : Nat) (μ : Sto) : run pp (k + 1) (Str.ofString "_law_name") [.int 2] μ = .ok (.str (Str.ofString "cat")) μ := by with_unfolding_all rfl
/-- the fields so far, with what is left -/
inductive Fs : Nat → D → Int → Prop where
  | z : Fs 0 (.lst true []) 5
  | a2 (i : Nat) : Fs (i + 1) (.lst true [.tup [.str (Str.ofString "a"), .int 2]]) 2
  | a3 (i : Nat) : Fs (i + 1) (.lst true [.tup [.str (Str.ofString "a"), .int 3]]) 1
  | a4 (i : Nat) : Fs (i + 1) (.lst true [.tup [.str (Str.ofString "a"), .int 4]]) 1
  | bo (i : Nat) : Fs (i + 1) (.lst true [.tup [.str (Str.ofString "a"), .int 2], .tup [.str (Str.ofString "bo"), .int 2]]) 1
  | cat (i : Nat) : Fs (i + 1) (.lst true [.tup [.str (Str.ofString "a"), .int 2], .tup [.str (Str.ofString "cat"), .int 2]]) 1
theorem s_fields {k : Nat} (hk : 2 ≤ k) (hf : FO μ) : Wp (run pp k (Str.ofString "_law_fields") [.ref 0, .int 5]) μ (fun d μ' => FO μ' ∧ ∃ ws, Fd d.fz ws) X := by
  obtain ⟨k, rfl⟩ : ∃ j, k = j + 2 := ⟨k - 2, by omega⟩
  rw [e__law_fields]
  simp_arith [P50.f__law_fields]
  refine (s_draw (many := 3) (by omega) hf (by omega) (by omega)).mono ?_
  rintro _ μ1 ⟨hf1, m, rfl, hm⟩
  simp_arith []
  refine ⟨by omega, ?_⟩
  rw [show (1 + (m : Int) - 0).toNat = m + 1 by omega]
  refine wp_for (fun _ _ => False) _ (fun i ρ μ' => FO μ' ∧ ∃ F l r4 r5, ρ = [some (.ref 0), some (.int 5), some F, some (.int l), r4, r5] ∧ Fs i F l) _ _ ⟨hf1, _, _, none, none, rfl, .z⟩ ?_ ?_ (fun _ _ h => h.elim)
  · rintro i hi _ μ2 ⟨hf2, F, l, r4, r5, rfl, hF⟩
    simp at hi
    simp only [List.getElem_map, List.getElem_range]
    simp_arith []
    refine (s_draw (many := 3) (by omega) hf2 (by omega) (by omega)).mono ?_
    rintro _ μ3 ⟨hf3, n, rfl, hn⟩
    have hl : (l = 5 ∧ i = 0 ∧ F = .lst true []) ∨ (1 ≤ i ∧ l = 2 ∧ F = .lst true [.tup [.str (Str.ofString "a"), .int 2]]) ∨ (1 ≤ i ∧ l = 1 ∧ Fs (i + 1) F l) := by
      cases hF with
      | z => exact .inl ⟨rfl, rfl, rfl⟩
      | a2 j => exact .inr (.inl ⟨by omega, rfl, rfl⟩)
      | a3 j => exact .inr (.inr ⟨by omega, rfl, .a3 _⟩)
      | a4 j => exact .inr (.inr ⟨by omega, rfl, .a4 _⟩)
      | bo j => exact .inr (.inr ⟨by omega, rfl, .bo _⟩)
      | cat j => exact .inr (.inr ⟨by omega, rfl, .cat _⟩)
    rcases hl with ⟨rfl, rfl, rfl⟩ | ⟨h1, rfl, rfl⟩ | ⟨h1, rfl, h2⟩
    · obtain rfl | rfl | rfl : n = 0 ∨ n = 1 ∨ n = 2 := by omega
      · simp_arith [show decide ((2 : Int) + ((0 : Nat) : Int) ≤ 5) = true from rfl, show ((0 : Int) + ((0 : Nat) : Int)) = 0 from rfl]
        refine Wp.of_ok (name0 k _) ?_
        simp_arith [line_eq]
        refine ⟨by omega, hf3, _, _, _, _, rfl, .a2 0⟩
      · simp_arith [show decide ((2 : Int) + ((1 : Nat) : Int) ≤ 5) = true from rfl, show ((0 : Int) + ((0 : Nat) : Int)) = 0 from rfl]
        refine Wp.of_ok (name0 k _) ?_
        simp_arith [line_eq]
        refine ⟨by omega, hf3, _, _, _, _, rfl, .a3 0⟩
      · simp_arith [show decide ((2 : Int) + ((2 : Nat) : Int) ≤ 5) = true from rfl, show ((0 : Int) + ((0 : Nat) : Int)) = 0 from rfl]
        refine Wp.of_ok (name0 k _) ?_
        simp_arith [line_eq]
        refine ⟨by omega, hf3, _, _, _, _, rfl, .a4 0⟩
    · by_cases hn0 : n = 0
      · subst hn0
        simp_arith [show decide ((2 : Int) + ((0 : Nat) : Int) ≤ 2) = true from rfl]
        obtain rfl | rfl : i = 1 ∨ i = 2 := by omega
        · refine Wp.of_ok (name1 k _) ?_
          simp_arith [line_eq]
          refine ⟨by omega, hf3, _, _, _, _, rfl, .bo 1⟩
        · refine Wp.of_ok (name2 k _) ?_
          simp_arith [line_eq]
          refine ⟨by omega, hf3, _, _, _, _, rfl, .cat 2⟩
      · simp_arith [show decide ((2 : Int) + (n : Int) ≤ 2) = false from decide_eq_false (by omega)]
        exact ⟨hf3, _, _, _, _, rfl, .a2 i⟩
    · simp_arith [show decide ((2 : Int) + (n : Int) ≤ 1) = false from decide_eq_false (by omega)]
      exact ⟨hf3, _, _, _, _, rfl, h2⟩
  · rintro _ μ2 ⟨hf2, F, l, r4, r5, rfl, hF⟩
    rw [show ((List.range (m + 1)).map fun i => D.int (0 + (i : Nat))).length = m + 1 by simp] at hF
    simp_arith []
    cases hF with
    | a2 j => simp_arith [D.isX]; exact ⟨hf2, _, .a2⟩
    | a3 j => simp_arith [D.isX]; exact ⟨hf2, _, .a3⟩
    | a4 j => simp_arith [D.isX]; exact ⟨hf2, _, .a4⟩
    | bo j => simp_arith [D.isX]; exact ⟨hf2, _, .bo⟩
    | cat j => simp_arith [D.isX]; exact ⟨hf2, _, .cat⟩
theorem Fd.get {F : D} {ws : List Nat} (h : Fd F ws) : ∃ ds, F = .lst false ds ∧ ds.length = ws.length ∧ 0 < ws.length ∧ ws.length < 4 ∧ D.nbL ds = true ∧ D.fzL ds = ds ∧ ∀ f (hf : f < ws.length), 0 < ws[f] ∧ ws[f] ≤ 4 ∧ ∃ x, L2.atI ds f = some (.tup [.str x, .int (ws[f] : Nat)]) := by
  have one : ∀ (n : Nat) (x : Str), 0 < n → n ≤ 4 → ∀ f (hf : f < [n].length), 0 < [n][f] ∧ [n][f] ≤ 4 ∧ ∃ x', L2.atI [D.tup [.str x, .int n]] f = some (.tup [.str x', .int ([n][f] : Nat)]) := by
    intro n x h0 h1 f hf
    simp at hf; subst hf
    exact ⟨h0, h1, x, by rw [atI_nat]; rfl⟩
  have two : ∀ (x y : Str), ∀ f (hf : f < [2, 2].length), 0 < [2, 2][f] ∧ [2, 2][f] ≤ 4 ∧ ∃ x', L2.atI [D.tup [.str x, .int 2], D.tup [.str y, .int 2]] f = some (.tup [.str x', .int ([2, 2][f] : Nat)]) := by
    intro x y f hf
    simp at hf
    obtain rfl | rfl : f = 0 ∨ f = 1 := by omega
    · exact ⟨by simp, by simp, x, by rw [atI_nat]; rfl⟩
    · exact ⟨by simp, by simp, y, by rw [atI_nat]; rfl⟩
  cases h with
  | a2 => exact ⟨_, rfl, rfl, by decide, by decide, rfl, rfl, one 2 _ (by omega) (by omega)⟩
  | a3 => exact ⟨_, rfl, rfl, by decide, by decide, rfl, rfl, one 3 _ (by omega) (by omega)⟩
  | a4 => exact ⟨_, rfl, rfl, by decide, by decide, rfl, rfl, one 4 _ (by omega) (by omega)⟩
  | bo => exact ⟨_, rfl, rfl, by decide, by decide, rfl, rfl, two _ _⟩
  | cat => exact ⟨_, rfl, rfl, by decide, by decide, rfl, rfl, two _ _⟩
theorem s_pair {k : Nat} {F : D} {ws : List Nat} (hF : Fd F ws) (hk : 2 ≤ k) (hf : FO μ) : Wp (run pp k (Str.ofString "_law_pair") [.ref 0, F]) μ (fun d μ' => FO μ' ∧ ∃ f w : Nat, d = .tup [.int f, .int w] ∧ ∃ h : f < ws.length, w < ws[f]) X := by
  obtain ⟨k, rfl⟩ : ∃ j, k = j + 2 := ⟨k - 2, by omega⟩
  obtain ⟨ds, rfl, h1, h2, h3, h4, h5, h6⟩ := hF.get
  rw [e__law_pair]
  simp_arith [P50.f__law_pair, h4, h5, h1]
  refine (s_draw (by omega) hf h2 (by omega)).mono ?_
  rintro _ μ1 ⟨hf1, f, rfl, hf⟩
  obtain ⟨h7, h8, x, h9⟩ := h6 f hf
  simp_arith [h4, h5, h9, atI_1]
  refine (s_draw (by omega) hf1 h7 (by omega)).mono ?_
  rintro _ μ2 ⟨hf2, w, rfl, hw⟩
  (try simp_arith [])
  exact ⟨hf2, f, w, rfl, hf, hw⟩
end
/-! W15 -/
section
variable {μ : Sto} {X : Str → List D → Sto → Prop}
/-- a policy of at most so many policies -/
def isPo (ws : List Nat) (m : Nat) (d : D) : Prop := ∃ p : Po, d = p.d ∧ p.Ok ws ∧ p.sz ≤ m
theorem isPo.fz {ws : List Nat} {m : Nat} (d : D) (h : isPo ws m d) : d.nb = true ∧ d.fz = d := by
  obtain ⟨p, rfl, _⟩ := h; exact p.fz
theorem isPo.mono {ws : List Nat} {m l : Nat} {d : D} (h : isPo ws m d) (hl : m ≤ l) : isPo ws l d := by
  obtain ⟨p, h1, h2, h3⟩ := h; exact ⟨p, h1, h2, by omega⟩
theorem s_test {F : D} {ws : List Nat} (hF : Fd F ws) : ∀ (k size : Nat) (μ : Sto) (X : Str → List D → Sto → Prop), FO μ → size + 3 ≤ k → 1 ≤ size → size ≤ 100 → Wp (run pp k (Str.ofString "_law_test") [.ref 0, F, .int size]) μ (fun d μ' => FO μ' ∧ isPo ws size d.fz) X
  | 0, size, _, _, _, h, _, _ => by omega
  | k + 1, size, μ, X, hf, hk, hs, hs100 => by
    have hFf : F.nb = true ∧ F.fz = F := by cases hF <;> exact ⟨rfl, rfl⟩
    rw [e__law_test]
    simp_arith [P50.f__law_test, hFf.1, hFf.2]
    refine (s_draw (many := 6) (by omega) hf (by omega) (by omega)).mono ?_
    rintro _ μ1 ⟨hf1, sh, rfl, hsh⟩
    simp_arith []
    by_cases h2 : size < 2
    · rw [show decide ((size : Int) < 2) = true from decide_eq_true (by omega)]
      simp_arith [hFf.1, hFf.2]
      try simp_arith [hFf.1, hFf.2]
      refine (s_pair hF (by omega) hf1).mono ?_
      rintro _ μ2 ⟨hf2, f, w, rfl, hfw⟩
      simp_arith [hFf.1, hFf.2]
      refine (s_pair hF (by omega) hf2).mono ?_
      rintro _ μ3 ⟨hf3, f2, w2, rfl, hfw2⟩
      simp_arith [hFf.1, hFf.2]
      refine (s_draw (many := 4) (by omega) hf3 (by omega) (by omega)).mono ?_
      rintro _ μ4 ⟨hf4, i, rfl, hi⟩
      obtain rfl | rfl | rfl | rfl : i = 0 ∨ i = 1 ∨ i = 2 ∨ i = 3 := by omega
      · simp_arith [atI_nat]
        exact ⟨hf4, .drop, by simp [Po.d, D.fz, D.fzL], trivial, by simp [Po.sz]; omega⟩
      · simp_arith [atI_nat]
        exact ⟨hf4, .pass, by simp [Po.d, D.fz, D.fzL], trivial, by simp [Po.sz]; omega⟩
      · simp_arith [atI_nat]
        exact ⟨hf4, .test f w, by simp [Po.d, D.fz, D.fzL], hfw, by simp [Po.sz]; omega⟩
      · simp_arith [atI_nat]
        exact ⟨hf4, .test f2 w2, by simp [Po.d, D.fz, D.fzL], hfw2, by simp [Po.sz]; omega⟩
    rw [show decide ((size : Int) < 2) = false from decide_eq_false (by omega)]
    simp_arith []
    by_cases hsh0 : sh = 0
    · rw [show decide ((sh : Int) = 0) = true from decide_eq_true (by omega)]
      simp_arith [hFf.1, hFf.2]
      try simp_arith [hFf.1, hFf.2]
      refine (s_pair hF (by omega) hf1).mono ?_
      rintro _ μ2 ⟨hf2, f, w, rfl, hfw⟩
      simp_arith [hFf.1, hFf.2]
      refine (s_pair hF (by omega) hf2).mono ?_
      rintro _ μ3 ⟨hf3, f2, w2, rfl, hfw2⟩
      simp_arith [hFf.1, hFf.2]
      refine (s_draw (many := 4) (by omega) hf3 (by omega) (by omega)).mono ?_
      rintro _ μ4 ⟨hf4, i, rfl, hi⟩
      obtain rfl | rfl | rfl | rfl : i = 0 ∨ i = 1 ∨ i = 2 ∨ i = 3 := by omega
      · simp_arith [atI_nat]
        exact ⟨hf4, .drop, by simp [Po.d, D.fz, D.fzL], trivial, by simp [Po.sz]; omega⟩
      · simp_arith [atI_nat]
        exact ⟨hf4, .pass, by simp [Po.d, D.fz, D.fzL], trivial, by simp [Po.sz]; omega⟩
      · simp_arith [atI_nat]
        exact ⟨hf4, .test f w, by simp [Po.d, D.fz, D.fzL], hfw, by simp [Po.sz]; omega⟩
      · simp_arith [atI_nat]
        exact ⟨hf4, .test f2 w2, by simp [Po.d, D.fz, D.fzL], hfw2, by simp [Po.sz]; omega⟩
    rw [show decide ((sh : Int) = 0) = false from decide_eq_false (by omega)]
    simp_arith []
    by_cases hsh1 : sh = 1
    · rw [show decide ((sh : Int) = 1) = true from decide_eq_true (by omega)]
      simp_arith [hFf.1, hFf.2]
      try simp_arith [hFf.1, hFf.2]
      rw [show (size : Int) - 1 = ((size - 1 : Nat) : Int) by omega]
      refine (s_test hF k (size - 1) _ _ hf1 (by omega) (by omega) (by omega)).mono ?_
      rintro d μ2 ⟨hf2, p, hp, hp2, hp3⟩
      (try simp_arith [])
      exact ⟨hf2, .not p, by simp [Po.d, D.fz, D.fzL, hp], hp2, by simp [Po.sz]; omega⟩
    rw [show decide ((sh : Int) = 1) = false from decide_eq_false (by omega)]
    simp_arith []
    by_cases hs2 : size = 2
    · rw [show decide ((size : Int) = 2) = true from decide_eq_true (by omega)]
      simp_arith [hFf.1, hFf.2]
      try simp_arith [hFf.1, hFf.2]
      rw [show (size : Int) - 1 = ((size - 1 : Nat) : Int) by omega]
      refine (s_test hF k (size - 1) _ _ hf1 (by omega) (by omega) (by omega)).mono ?_
      rintro d μ2 ⟨hf2, p, hp, hp2, hp3⟩
      (try simp_arith [])
      exact ⟨hf2, .not p, by simp [Po.d, D.fz, D.fzL, hp], hp2, by simp [Po.sz]; omega⟩
    rw [show decide ((size : Int) = 2) = false from decide_eq_false (by omega)]
    simp_arith [hFf.1, hFf.2]
    rw [show (size : Int) - 2 = ((size - 2 : Nat) : Int) by omega]
    refine (s_draw (many := size - 2) (by omega) hf1 (by omega) (by omega)).mono ?_
    rintro _ μ2 ⟨hf2, l, rfl, hl⟩
    simp_arith [hFf.1, hFf.2]
    refine (s_draw (many := 2) (by omega) hf2 (by omega) (by omega)).mono ?_
    rintro _ μ3 ⟨hf3, i, rfl, hi⟩
    obtain rfl | rfl : i = 0 ∨ i = 1 := by omega
    all_goals
      simp_arith [atI_nat, hFf.1, hFf.2]
      rw [show (1 : Int) + (l : Nat) = ((l + 1 : Nat) : Int) by omega]
      refine (s_test hF k (l + 1) _ _ hf3 (by omega) (by omega) (by omega)).mono ?_
      rintro d μ4 ⟨hf4, p, hp, hp2, hp3⟩
      (try simp_arith [hFf.1, hFf.2])
      rw [show (size : Int) - 1 - ((l + 1 : Nat) : Int) = ((size - 1 - (l + 1) : Nat) : Int) by omega]
      refine (s_test hF k (size - 1 - (l + 1)) _ _ hf4 (by omega) (by omega) (by omega)).mono ?_
      rintro e μ5 ⟨hf5, q, hq, hq2, hq3⟩
      (try simp_arith [])
    · exact ⟨hf5, .or p q, by simp [Po.d, D.fz, D.fzL, hp, hq], ⟨hp2, hq2⟩, by simp [Po.sz]; omega⟩
    · exact ⟨hf5, .thn p q, by simp [Po.d, D.fz, D.fzL, hp, hq], ⟨hp2, hq2⟩, by simp [Po.sz]; omega⟩
end
/-! W16 -/
theorem rep1 (ds : List D) : (List.replicate (Int.toNat 1) ds).flatten = ds := by simp
theorem b64d : (-B64 < 2 ∧ 2 < B64) = True := by simp [B64]
theorem w_mulL1 {μ : Sto} {Q : D → Sto → Prop} {X : Str → List D → Sto → Prop} {a b : D} {o : Bool} : Wp (binD .mul (.lst o [a, b]) (.int 1)) μ Q X = Q (.lst true [a, b]) μ := by
  rw [w_mulL, rep1]
  simp [line_eq]
theorem s_policy {F : D} {ws : List Nat} (hF : Fd F ws) : ∀ (k size : Nat) (μ : Sto) (X : Str → List D → Sto → Prop), FO μ → size + 5 ≤ k → 1 ≤ size → size ≤ 100 → Wp (run pp k (Str.ofString "_law_policy") [.ref 0, F, .int size, .int 1]) μ (fun d μ' => FO μ' ∧ isPo ws size d.fz) X
  | 0, size, _, _, _, h, _, _ => by omega
  | k + 1, size, μ, X, hf, hk, hs, hs100 => by
    have hFf : F.nb = true ∧ F.fz = F := by cases hF <;> exact ⟨rfl, rfl⟩
    rw [e__law_policy]
    simp_arith [P50.f__law_policy, hFf.1, hFf.2]
    refine (s_draw (many := 8) (by omega) hf (by omega) (by omega)).mono ?_
    rintro _ μ1 ⟨hf1, sh, rfl, hsh⟩
    simp_arith []
    by_cases h2 : size < 2
    · rw [show decide ((size : Int) < 2) = true from decide_eq_true (by omega)]
      simp_arith [hFf.1, hFf.2]
      refine (s_pair hF (by omega) hf1).mono ?_
      rintro _ μ2 ⟨hf2, f, w, rfl, hfw⟩
      simp_arith [hFf.1, hFf.2]
      refine (s_pair hF (by omega) hf2).mono ?_
      rintro _ μ3 ⟨hf3, f2, w2, rfl, hfw2⟩
      simp_arith [hFf.1, hFf.2]
      refine (s_pair hF (by omega) hf3).mono ?_
      rintro _ μ4 ⟨hf4, f3, w3, rfl, hfw3⟩
      simp_arith [hFf.1, hFf.2, w_mulL1, b64d, true_or]
      rw [show (5 : Int) + 2 * 1 = ((7 : Nat) : Int) from rfl]
      refine (s_draw (many := 7) (by omega) hf4 (by omega) (by omega)).mono ?_
      rintro _ μ5 ⟨hf5, i, rfl, hi⟩
      obtain rfl | rfl | rfl | rfl | rfl | rfl | rfl : i = 0 ∨ i = 1 ∨ i = 2 ∨ i = 3 ∨ i = 4 ∨ i = 5 ∨ i = 6 := by omega
      · simp_arith [atI_nat]
        exact ⟨hf5, .put f w, by simp [Po.d, D.fz, D.fzL], hfw, by simp [Po.sz]; omega⟩
      · simp_arith [atI_nat]
        exact ⟨hf5, .test f2 w2, by simp [Po.d, D.fz, D.fzL], hfw2, by simp [Po.sz]; omega⟩
      · simp_arith [atI_nat]
        exact ⟨hf5, .put f3 w3, by simp [Po.d, D.fz, D.fzL], hfw3, by simp [Po.sz]; omega⟩
      · simp_arith [atI_nat]
        exact ⟨hf5, .pass, by simp [Po.d, D.fz, D.fzL], trivial, by simp [Po.sz]; omega⟩
      · simp_arith [atI_nat]
        exact ⟨hf5, .drop, by simp [Po.d, D.fz, D.fzL], trivial, by simp [Po.sz]; omega⟩
      · simp_arith [atI_nat]
        exact ⟨hf5, .halt, by simp [Po.d, D.fz, D.fzL], trivial, by simp [Po.sz]; omega⟩
      · simp_arith [atI_nat]
        exact ⟨hf5, .halt, by simp [Po.d, D.fz, D.fzL], trivial, by simp [Po.sz]; omega⟩
    rw [show decide ((size : Int) < 2) = false from decide_eq_false (by omega)]
    simp_arith []
    by_cases hsh0 : sh = 0
    · rw [show decide ((sh : Int) = 0) = true from decide_eq_true (by omega)]
      simp_arith [hFf.1, hFf.2]
      refine (s_test hF k size _ _ hf1 (by omega) (by omega) (by omega)).mono ?_
      rintro d μ2 ⟨hf2, hd⟩
      (try simp_arith [])
      exact ⟨hf2, hd⟩
    rw [show decide ((sh : Int) = 0) = false from decide_eq_false (by omega)]
    simp_arith []
    by_cases hs2 : size = 2
    · rw [show decide ((size : Int) = 2) = true from decide_eq_true (by omega)]
      simp_arith [hFf.1, hFf.2]
      rw [show (size : Int) - 1 = ((size - 1 : Nat) : Int) by omega]
      refine (s_policy hF k (size - 1) _ _ hf1 (by omega) (by omega) (by omega)).mono ?_
      rintro d μ2 ⟨hf2, p, hp, hp2, hp3⟩
      (try simp_arith [])
      exact ⟨hf2, .again p, by simp [Po.d, D.fz, D.fzL, hp], hp2, by simp [Po.sz]; omega⟩
    rw [show decide ((size : Int) = 2) = false from decide_eq_false (by omega)]
    simp_arith []
    by_cases hsh1 : sh = 1
    · rw [show decide ((sh : Int) = 1) = true from decide_eq_true (by omega)]
      simp_arith [hFf.1, hFf.2]
      rw [show (size : Int) - 1 = ((size - 1 : Nat) : Int) by omega]
      refine (s_policy hF k (size - 1) _ _ hf1 (by omega) (by omega) (by omega)).mono ?_
      rintro d μ2 ⟨hf2, p, hp, hp2, hp3⟩
      (try simp_arith [])
      exact ⟨hf2, .again p, by simp [Po.d, D.fz, D.fzL, hp], hp2, by simp [Po.sz]; omega⟩
    rw [show decide ((sh : Int) = 1) = false from decide_eq_false (by omega)]
    simp_arith [hFf.1, hFf.2]
    rw [show (size : Int) - 2 = ((size - 2 : Nat) : Int) by omega]
    refine (s_draw (many := size - 2) (by omega) hf1 (by omega) (by omega)).mono ?_
    rintro _ μ2 ⟨hf2, l, rfl, hl⟩
    simp_arith [hFf.1, hFf.2]
    rw [show (1 : Int) + (l : Nat) = ((l + 1 : Nat) : Int) by omega]
    refine (s_policy hF k (l + 1) _ _ hf2 (by omega) (by omega) (by omega)).mono ?_
    rintro d μ4 ⟨hf4, p, hp, hp2, hp3⟩
    have hpf := p.fz
    (try simp_arith [hFf.1, hFf.2])
    refine (s_draw (many := 3) (by omega) hf4 (by omega) (by omega)).mono ?_
    rintro _ μ3 ⟨hf3, i, rfl, hi⟩
    obtain rfl | rfl | rfl : i = 0 ∨ i = 1 ∨ i = 2 := by omega
    all_goals
      simp_arith [atI_nat, hFf.1, hFf.2, hp, hpf.1, hpf.2]
      rw [show (size : Int) - 1 - ((l + 1 : Nat) : Int) = ((size - 1 - (l + 1) : Nat) : Int) by omega]
      refine (s_policy hF k (size - 1 - (l + 1)) _ _ hf3 (by omega) (by omega) (by omega)).mono ?_
      rintro e μ5 ⟨hf5, q, hq, hq2, hq3⟩
      (try simp_arith [hpf.1, hpf.2])
    · exact ⟨hf5, .or p q, by simp [Po.d, hq], ⟨hp2, hq2⟩, by simp [Po.sz]; omega⟩
    · exact ⟨hf5, .thn p q, by simp [Po.d, hq], ⟨hp2, hq2⟩, by simp [Po.sz]; omega⟩
    · exact ⟨hf5, .thn p q, by simp [Po.d, hq], ⟨hp2, hq2⟩, by simp [Po.sz]; omega⟩
/-! W17 -/
def IsI (d : D) : Prop := ∃ i, d = .int i
def LB (P : D → Prop) (c : Nat) (d : D) : Prop := ∃ ds, d = .lst false ds ∧ ds.length ≤ c ∧ ∀ x ∈ ds, P x
def RD (c : Nat) : D → Prop := LB IsI c
def TD (c : Nat) : D → Prop := LB (RD c) c
def SD (c : Nat) : D → Prop := LB (TD c) c
def GD (c : Nat) : D → Prop := LB (SD c) c
def MD (c : Nat) (d : D) : Prop := ∃ a g, d = .tup [a, g] ∧ SD c a ∧ GD c g
theorem IsI.fz (d : D) (h : IsI d) : d.nb = true ∧ d.fz = d := by obtain ⟨i, rfl⟩ := h; exact ⟨rfl, rfl⟩
theorem LB.fz {P : D → Prop} (h : ∀ d, P d → d.nb = true ∧ d.fz = d) {c : Nat} (d : D) (hd : LB P c d) : d.nb = true ∧ d.fz = d := by
  obtain ⟨ds, rfl, _, hp⟩ := hd
  have := nbL_of h hp
  simp [D.nb, D.fz, this.1, this.2]
theorem RD.fz {c : Nat} (d : D) (h : RD c d) : d.nb = true ∧ d.fz = d := LB.fz IsI.fz d h
theorem TD.fz {c : Nat} (d : D) (h : TD c d) : d.nb = true ∧ d.fz = d := LB.fz RD.fz d h
theorem SD.fz {c : Nat} (d : D) (h : SD c d) : d.nb = true ∧ d.fz = d := LB.fz TD.fz d h
theorem GD.fz {c : Nat} (d : D) (h : GD c d) : d.nb = true ∧ d.fz = d := LB.fz SD.fz d h
theorem LB.mono {P R : D → Prop} (h : ∀ d, P d → R d) {c e : Nat} (hc : c ≤ e) (d : D) (hd : LB P c d) : LB R e d := by
  obtain ⟨ds, rfl, h1, h2⟩ := hd
  exact ⟨ds, rfl, by omega, fun x hx => h x (h2 x hx)⟩
theorem RD.mono {c e : Nat} (hc : c ≤ e) (d : D) (h : RD c d) : RD e d := LB.mono (fun _ h => h) hc d h
theorem TD.mono {c e : Nat} (hc : c ≤ e) (d : D) (h : TD c d) : TD e d := LB.mono (RD.mono hc) hc d h
theorem SD.mono {c e : Nat} (hc : c ≤ e) (d : D) (h : SD c d) : SD e d := LB.mono (TD.mono hc) hc d h
theorem GD.mono {c e : Nat} (hc : c ≤ e) (d : D) (h : GD c d) : GD e d := LB.mono (SD.mono hc) hc d h
/-- from parts to a typed list -/
theorem choose_map {α : Type} {e : α → D} {p : α → Prop} : ∀ {ys : List D}, (∀ y ∈ ys, ∃ a, y = e a ∧ p a) → ∃ as : List α, ys = as.map e ∧ ∀ a ∈ as, p a
  | [], _ => ⟨[], rfl, by simp⟩
  | y :: ys, h => by
    obtain ⟨a, rfl, ha⟩ := h y List.mem_cons_self
    obtain ⟨as, rfl, hs⟩ := choose_map (ys := ys) (fun z hz => h z (List.mem_cons_of_mem _ hz))
    exact ⟨a :: as, rfl, by simpa using ⟨ha, hs⟩⟩
theorem LB.typed {α : Type} {e : α → D} {p : α → Prop} {P : D → Prop} (h : ∀ d, P d → ∃ a, d = e a ∧ p a) {c : Nat} (hc : c ≤ 200) (d : D) (hd : LB P c d) : ∃ as, d = eL e as ∧ zL p as := by
  obtain ⟨ds, rfl, h1, h2⟩ := hd
  obtain ⟨as, rfl, h3⟩ := choose_map (fun y hy => h y (h2 y hy))
  exact ⟨as, rfl, by simp at h1; omega, h3⟩
theorem RD.typed {c : Nat} (hc : c ≤ 200) (d : D) (h : RD c d) : ∃ r, d = eR r ∧ zR r := LB.typed (fun d ⟨i, h⟩ => ⟨i, h, trivial⟩) hc d h
theorem TD.typed {c : Nat} (hc : c ≤ 200) (d : D) (h : TD c d) : ∃ r, d = eT r ∧ zT r := LB.typed (RD.typed hc) hc d h
theorem SD.typed {c : Nat} (hc : c ≤ 200) (d : D) (h : SD c d) : ∃ r, d = eS r ∧ zS r := LB.typed (TD.typed hc) hc d h
theorem GD.typed {c : Nat} (hc : c ≤ 200) (d : D) (h : GD c d) : ∃ r, d = eG r ∧ zG r := LB.typed (SD.typed hc) hc d h
theorem MD.typed {c : Nat} (hc : c ≤ 200) (d : D) (h : MD c d) : ∃ m, d = eM m ∧ zM m := by
  obtain ⟨a, g, rfl, h1, h2⟩ := h
  obtain ⟨a, rfl, h3⟩ := SD.typed hc _ h1
  obtain ⟨g, rfl, h4⟩ := GD.typed hc _ h2
  exact ⟨(a, g), rfl, h3, h4⟩
theorem MD.fz {c : Nat} (d : D) (h : MD c d) : d.nb = true ∧ d.fz = d := by
  obtain ⟨a, g, rfl, h1, h2⟩ := h
  have h3 := SD.fz a h1
  have h4 := GD.fz g h2
  simp [D.nb, D.nbL, D.fz, D.fzL, h3.1, h3.2, h4.1, h4.2]
/-- a drawn machine: its sizes -/
def TX (n : Nat) : D → Prop := LP (RD n) n
def MX (n s : Nat) (d : D) : Prop := ∃ a b, d = .tup [a, b] ∧ LP (TX n) (s + 1) a ∧ LP (LP (TX n) (s + 1)) (s + 1) b
theorem LP.toLB {P R : D → Prop} (h : ∀ d, P d → R d) {k c : Nat} (hc : k ≤ c) (d : D) (hd : LP P k d) : LB R c d := by
  obtain ⟨ds, rfl, h1, h2⟩ := hd
  exact ⟨ds, rfl, by omega, fun x hx => h x (h2 x hx)⟩
theorem TX.toTD {n c : Nat} (hc : n ≤ c) (d : D) (h : TX n d) : TD c d := LP.toLB (RD.mono hc) hc d h
theorem MX.toMD {n s c : Nat} (hn : n ≤ c) (hs : s + 1 ≤ c) (d : D) (h : MX n s d) : MD c d := by
  obtain ⟨a, b, rfl, h1, h2⟩ := h
  exact ⟨a, b, rfl, LP.toLB (TX.toTD hn) hs _ h1, LP.toLB (LP.toLB (TX.toTD hn) hs) hs _ h2⟩
theorem TX.fz {n : Nat} (d : D) (h : TX n d) : d.nb = true ∧ d.fz = d := LP.fz RD.fz d h
theorem RD_nil {c : Nat} : RD c (.lst false []) := ⟨[], rfl, by simp, by simp⟩
theorem TX_Dr (n : Nat) : TX n (Dr n) := ⟨_, rfl, by simp, by
  intro x hx
  rw [(List.mem_replicate.1 hx).2]
  exact RD_nil⟩
section
variable {μ : Sto} {X : Str → List D → Sto → Prop}
theorem s_law_drop {k n : Nat} (hk : 1 ≤ k) (hn : n ≤ 16) : Wp (run pp k (Str.ofString "_law_drop") [.int n]) μ (Pu (· = Dr n) μ) X := by
  obtain ⟨k, rfl⟩ : ∃ j, k = j + 1 := ⟨k - 1, by omega⟩
  rw [e__law_drop]
  simp_arith [P50.f__law_drop]
  refine ⟨by omega, ?_⟩
  refine wp_mapE (fun _ => .lst false []) (by simp [line_eq]; omega) ?_ ?_
  · intro x hx
    simp_arith []
    exact ⟨_, rfl, rfl⟩
  · intro ys h
    simp_arith [h]
    simp [Dr]
    rw [List.eq_replicate_iff]; simp
theorem s_some_table {k n thick : Nat} (hk : 2 ≤ k) (hf : FO μ) (hn : n ≤ 16) (ht : 0 < thick) (ht2 : thick ≤ 100) : Wp (run pp k (Str.ofString "_law_some_table") [.ref 0, .int n, .int thick]) μ (fun d μ' => FO μ' ∧ TX n d.fz) X := by
  obtain ⟨k, rfl⟩ : ∃ j, k = j + 2 := ⟨k - 2, by omega⟩
  rw [e__law_some_table]
  simp_arith [P50.f__law_some_table]
  refine ⟨by omega, ?_⟩
  rw [show ((n : Int) - 0).toNat = n by omega]
  refine wp_for (fun _ _ => False) _ (fun i ρ μ' => FO μ' ∧ ∃ gs r4 r5, ρ = [some (.ref 0), some (.int n), some (.int thick), some (.lst true gs), r4, r5] ∧ gs.length = i ∧ ∀ x ∈ D.fzL gs, RD n x) _ _ ⟨hf, [], none, none, rfl, rfl, by simp [D.fzL]⟩ ?_ ?_ (fun _ _ h => h.elim)
  · rintro i hi _ μ1 ⟨hf1, gs, r4, r5, rfl, hg, hgs⟩
    simp at hi
    simp only [List.getElem_map, List.getElem_range]
    simp_arith []
    refine ⟨by omega, ?_⟩
    refine wp_mapG FO IsI _ [] _ _ (by simp [line_eq]; omega) hf1 ?_ ?_
    · intro x hx μ2 hf2
      simp at hx
      obtain ⟨j, hj, rfl⟩ := hx
      simp_arith []
      refine (s_draw (by omega) hf2 ht (by omega)).mono ?_
      rintro _ μ3 ⟨hf3, l, rfl, hl⟩
      simp_arith []
      cases decide ((l : Int) = 0) with
      | true => simp_arith []; exact ⟨hf3, fun y hy => ⟨_, (Option.some.inj hy).symm⟩⟩
      | false => simp_arith []; exact ⟨hf3, fun y hy => by cases hy⟩
    · intro ys μ3 hf3 hl hys
      (try simp_arith [])
      have hl' : ys.length ≤ n := by simpa using hl
      refine ⟨by simp [line_eq]; omega, hf3, _, _, _, rfl, by simp; omega, ?_⟩
      intro x hx
      rw [fzL_app] at hx
      rcases List.mem_append.1 hx with h | h
      · exact hgs x h
      · simp only [D.fzL, D.fz, List.nil_append, List.mem_singleton] at h
        subst h
        have := nbL_of IsI.fz hys
        exact ⟨_, rfl, by rw [fzL_len]; exact hl', by rw [this.2]; exact hys⟩
  · rintro _ μ1 ⟨hf1, gs, r4, r5, rfl, hg, hgs⟩
    simp_arith [D.isX]
    exact ⟨hf1, _, rfl, by rw [fzL_len]; simpa using hg, hgs⟩
theorem s_some_machine {k n s thick : Nat} (hk : 3 ≤ k) (hf : FO μ) (hn : n ≤ 16) (hs : s ≤ 40) (ht : 0 < thick) (ht2 : thick ≤ 100) : Wp (run pp k (Str.ofString "_law_some_machine") [.ref 0, .int n, .int s, .int thick]) μ (fun d μ' => FO μ' ∧ MX n s d.fz) X := by
  obtain ⟨k, rfl⟩ : ∃ j, k = j + 3 := ⟨k - 3, by omega⟩
  rw [e__law_some_machine]
  simp_arith [P50.f__law_some_machine]
  refine ⟨by omega, ?_⟩
  rw [show ((s : Int) + 1 - 0).toNat = s + 1 by omega]
  refine wp_mapJ FO (TX n) hf (by simp [line_eq]; omega) ?_ ?_
  · intro x hx μ1 hf1
    simp_arith []
    refine (s_some_table (by omega) hf1 hn ht ht2).mono ?_
    rintro d μ2 ⟨hf2, hd⟩
    exact ⟨hf2, _, rfl, hd⟩
  intro ys μ1 hf1 hl hys
  have hl' : ys.length = s + 1 := by simpa using hl
  have Y := nbL_of TX.fz hys
  (try simp_arith [])
  refine ⟨by omega, ?_⟩
  refine wp_for (fun _ _ => False) _ (fun i ρ μ' => FO μ' ∧ ∃ gs r5 r7, ρ = [some (.ref 0), some (.int n), some (.int s), some (.int thick), some (.lst false (D.fzL ys)), r5, some (.lst true gs), r7] ∧ gs.length = i ∧ ∀ x ∈ D.fzL gs, LP (TX n) (s + 1) x) _ _ ⟨hf1, [], none, none, rfl, rfl, by simp [D.fzL]⟩ ?_ ?_ (fun _ _ h => h.elim)
  · rintro i hi _ μ2 ⟨hf2, gs, r5, r7, rfl, hg, hgs⟩
    simp at hi
    simp only [List.getElem_map, List.getElem_range]
    simp_arith []
    refine (s_law_drop (by omega) hn).mono ?_
    rintro d μ3 ⟨hμ, hd⟩
    subst hμ
    have hdr := Dr_fz n
    (try simp_arith [])
    refine ⟨by omega, ?_⟩
    rw [show ((s : Int) - 0).toNat = s by omega]
    refine wp_mapJ FO (TX n) hf2 (by simp [line_eq]; omega) ?_ ?_
    · intro x hx μ1 hf1
      simp_arith []
      refine (s_some_table (by omega) hf1 hn ht ht2).mono ?_
      rintro d μ2 ⟨hf2, hd⟩
      exact ⟨hf2, _, rfl, hd⟩
    intro zs μ4 hf4 hzl hzs
    have hzl' : zs.length = s := by simpa using hzl
    have Z := nbL_of TX.fz hzs
    (try simp_arith [hd, fzL_len])
    refine ⟨by simp [line_eq]; omega, by simp [line_eq]; omega, hf4, _, _, _, rfl, by simp; omega, ?_⟩
    intro x hx
    rw [fzL_app] at hx
    rcases List.mem_append.1 hx with h | h
    · exact hgs x h
    · simp only [D.fzL, D.fz, List.nil_append, List.mem_singleton, hdr.2, Z.2] at h
      subst h
      refine ⟨_, rfl, by simp [fzL_len]; omega, ?_⟩
      intro x hx
      rcases List.mem_cons.1 hx with rfl | hx
      · exact TX_Dr n
      · exact hzs x hx
  · rintro _ μ2 ⟨hf2, gs, r5, r7, rfl, hg, hgs⟩
    have hg' : gs.length = s + 1 := by simpa using hg
    have E := nbL_of (LP.fz TX.fz) hgs
    simp_arith [Y.1, Y.2, E.1, E.2]
    exact ⟨hf2, _, _, rfl, ⟨_, rfl, by rw [fzL_len]; exact hl', hys⟩, ⟨_, rfl, by rw [fzL_len]; exact hg', hgs⟩⟩
end
/-! W18 -/
theorem allP_app {P : D → Prop} {a b : List D} (h : ∀ x ∈ a, P x) (g : ∀ x ∈ b, P x) : ∀ x ∈ a ++ b, P x := fun x hx => (List.mem_append.1 hx).elim (h x) (g x)
theorem allP_cons {P : D → Prop} {a : D} {b : List D} (h : P a) (g : ∀ x ∈ b, P x) : ∀ x ∈ a :: b, P x := fun x hx => (List.mem_cons.1 hx).elim (fun e => e ▸ h) (g x)
theorem allP_nil {P : D → Prop} : ∀ x ∈ ([] : List D), P x := by simp
theorem allP_cut {P : D → Prop} {a : List D} (h : ∀ x ∈ a, P x) (l u : Option Int) : ∀ x ∈ cutD a l u, P x := fun x hx => h x (mem_cut hx)
/-- a frozen list and its slices -/
theorem frz_cut {P : D → Prop} (hP : ∀ d, P d → d.nb = true ∧ d.fz = d) {ds : List D} (h : ∀ x ∈ ds, P x) : (D.nbL ds = true ∧ D.fzL ds = ds) ∧ (∀ l u, D.nbL (cutD ds l u) = true) ∧ (∀ l u, D.fzL (cutD ds l u) = cutD ds l u) ∧ (∀ l u, (cutD ds l u).length ≤ ds.length) :=
  ⟨nbL_of hP h, fun l u => (nbL_of hP (allP_cut h l u)).1, fun l u => (nbL_of hP (allP_cut h l u)).2, fun l u => len_cut ds l u⟩
theorem pick {P : D → Prop} {l : List D} (h : ∀ x ∈ l, P x) {j : Nat} (hj : j < l.length) : ∃ d, L2.atI l (j : Int) = some d ∧ P d := ⟨l[j], by rw [atI_nat, List.getElem?_eq_getElem hj], h _ (List.getElem_mem hj)⟩
section
variable {μ : Sto} {X : Str → List D → Sto → Prop}
theorem s_no_table {k n : Nat} {t : D} (hk : 2 ≤ k) (hf : FO μ) (hn0 : 0 < n) (hn : n ≤ 16) (ht : TX n t) : Wp (run pp k (Str.ofString "_law_no_table") [.ref 0, .int n, t]) μ (fun d μ' => FO μ' ∧ TD 40 d.fz) X := by
  obtain ⟨k, rfl⟩ : ∃ j, k = j + 2 := ⟨k - 2, by omega⟩
  obtain ⟨ds, rfl, hl, hr⟩ := ht
  obtain ⟨d1, d2, d3, d4⟩ := frz_cut RD.fz hr
  have hr40 : ∀ x ∈ ds, RD 40 x := fun x hx => RD.mono (by omega) x (hr x hx)
  rw [e__law_no_table]
  simp_arith [P50.f__law_no_table, d1.1, d1.2]
  refine (s_draw (by omega) hf hn0 (by omega)).mono ?_
  rintro _ μ1 ⟨hf1, i, rfl, hi⟩
  have hi' : i < ds.length := by omega
  have g1 : L2.atI ds (i : Int) = some ds[i] := by rw [atI_nat]; simp [hi']
  obtain ⟨rs, hrs, hrl, hri⟩ := hr ds[i] (List.getElem_mem hi')
  obtain ⟨r1, r2, r3, r4⟩ := frz_cut IsI.fz hri
  have r5 := nbL_of (P := IsI) IsI.fz (ds := rs.reverse) (fun x hx => hri x (List.mem_reverse.1 hx))
  have r6 := r4 (some (-1)) none
  simp_arith [d1.1, d1.2, g1, hrs, r1.1, r1.2, r2, r3, r5.1, r5.2, fzL_app, nbL_app, List.length_reverse]
  repeat (refine ⟨by first | (simp [line_eq, fzL_len]; done) | (simp [line_eq, fzL_len]; omega), ?_⟩)
  have six : ∀ x ∈ [D.lst false (rs ++ [D.int n]), D.lst false (D.int (-1) :: rs), D.lst false rs.reverse, D.lst false (rs ++ cutD rs (some (-1)) none), D.lst false (D.int (n - 1) :: rs), D.lst false (rs ++ [D.int 0])], RD 40 x := by
    refine allP_cons ⟨_, rfl, by simp; omega, allP_app hri (allP_cons ⟨_, rfl⟩ allP_nil)⟩ (allP_cons ⟨_, rfl, by simp; omega, allP_cons ⟨_, rfl⟩ hri⟩ (allP_cons ⟨_, rfl, by simp; omega, fun x hx => hri x (List.mem_reverse.1 hx)⟩ (allP_cons ⟨_, rfl, by simp; omega, allP_app hri (allP_cut hri _ _)⟩ (allP_cons ⟨_, rfl, by simp; omega, allP_cons ⟨_, rfl⟩ hri⟩ (allP_cons ⟨_, rfl, by simp; omega, allP_app hri (allP_cons ⟨_, rfl⟩ allP_nil)⟩ allP_nil)))))
  have c1 := d4 none (some (i : Int))
  have c2 := d4 (some ((i : Int) + 1)) none
  have c3 := d4 none (some (-1))
  refine wp_mapP (TD 40) (by simp [line_eq]) ?_ ?_
  · intro x hx
    have x1 := six x hx
    have x2 := RD.fz x x1
    simp_arith [d1.1, d1.2, d2, d3, x2.1, x2.2, fzL_app, nbL_app]
    repeat (refine ⟨by first | (simp [line_eq, fzL_len]; done) | (simp [line_eq, fzL_len]; omega), ?_⟩)
    refine ⟨_, rfl, _, rfl, by simp [fzL_len]; omega, ?_⟩
    simp only [fzL_app, D.fzL, d3, x2.2]
    exact allP_app (allP_app (allP_cut hr40 _ _) (allP_cons x1 allP_nil)) (allP_cut hr40 _ _)
  intro ys hy1 hy2
  have Y := nbL_of TD.fz hy2
  have hy3 : ys.length = 6 := by simpa using hy1
  (try simp_arith [Y.1, Y.2, d1.1, d1.2, d2, d3, fzL_app, nbL_app, fzL_len, hy3])
  repeat (refine ⟨by first | (simp [line_eq, fzL_len]; done) | (simp [line_eq, fzL_len]; omega), ?_⟩)
  have ten : ∀ x ∈ D.fzL ys ++ [D.lst false (cutD ds none (some (-1))), D.lst false (ds ++ [D.lst false []]), D.lst false [], D.lst false (ds ++ ds)], TD 40 x := by
    refine allP_app hy2 (allP_cons ⟨_, rfl, by omega, allP_cut hr40 _ _⟩ (allP_cons ⟨_, rfl, by simp; omega, allP_app hr40 (allP_cons RD_nil allP_nil)⟩ (allP_cons ⟨_, rfl, by simp, allP_nil⟩ (allP_cons ⟨_, rfl, by simp; omega, allP_app hr40 hr40⟩ allP_nil))))
  refine (s_draw (many := 10) (by omega) hf1 (by omega) (by omega)).mono ?_
  rintro _ μ2 ⟨hf2, j, rfl, hj⟩
  obtain ⟨d, g2, g3⟩ := pick ten (j := j) (by simp [fzL_len, hy3]; omega)
  simp_arith [g2]
  refine ⟨hf2, ?_⟩
  rw [(TD.fz _ g3).2]
  exact g3
end
/-! W19 -/
theorem RD_one {c : Nat} (hc : 1 ≤ c) (i : Int) : RD c (.lst false [.int i]) := ⟨_, rfl, by simpa using hc, allP_cons ⟨_, rfl⟩ allP_nil⟩
section
variable {μ : Sto} {X : Str → List D → Sto → Prop}
theorem s_bent {k n s : Nat} {m : D} (hk : 8 ≤ k) (hf : FO μ) (hn0 : 0 < n) (hn : n ≤ 16) (hs : s ≤ 20) (hm : MX n s m) : Wp (run pp k (Str.ofString "_law_bent") [.ref 0, .int n, m]) μ (fun d μ' => FO μ' ∧ MD 60 d.fz) X := by
  obtain ⟨k, rfl⟩ : ∃ j, k = j + 8 := ⟨k - 8, by omega⟩
  have hmd := MX.toMD (c := 60) (by omega) (by omega) m hm
  obtain ⟨m', hm1, hm2⟩ := MD.typed (by omega) m hmd
  obtain ⟨a, b, rfl, ⟨A, rfl, ha1, ha2⟩, ⟨G, rfl, hg1, hg2⟩⟩ := hm
  obtain ⟨A1, A2, A3, A4⟩ := frz_cut TX.fz ha2
  obtain ⟨G1, G2, G3, G4⟩ := frz_cut (LP.fz TX.fz) hg2
  have A60 : ∀ x ∈ A, TD 60 x := fun x hx => TX.toTD (by omega) x (ha2 x hx)
  have G60 : ∀ x ∈ G, SD 60 x := fun x hx => LP.toLB (TX.toTD (by omega)) (by omega) x (hg2 x hx)
  have SA : SD 60 (.lst false A) := ⟨_, rfl, by omega, A60⟩
  have SG : GD 60 (.lst false G) := ⟨_, rfl, by omega, G60⟩
  have hdr := Dr_fz n
  have Dr60 : TD 60 (Dr n) := TX.toTD (by omega) _ (TX_Dr n)
  rw [e__law_bent]
  simp_arith [P50.f__law_bent, A1.1, A1.2, G1.1, G1.2]
  rw [hm1]
  refine (anM (k + 7) m' _ _ (by omega) hm2).mono ?_
  rintro d μ1 ⟨hμ, hd⟩
  subst hμ
  rw [← hm1] at hd
  simp_arith [hd, A1.1, A1.2, G1.1, G1.2]
  rw [ha1]
  refine (s_draw (many := s + 1) (by omega) hf (by omega) (by omega)).mono ?_
  rintro _ μ2 ⟨hf2, i, rfl, hi⟩
  simp_arith []
  refine (s_draw (many := s + 1) (by omega) hf2 (by omega) (by omega)).mono ?_
  rintro _ μ3 ⟨hf3, j, rfl, hj⟩
  simp_arith []
  refine (s_draw (many := 10) (by omega) hf3 (by omega) (by omega)).mono ?_
  rintro _ μ4 ⟨hf4, kd, rfl, hkd⟩
  obtain ⟨Ai, ai1, ai2⟩ := pick ha2 (j := i) (by omega)
  obtain ⟨Gi, gi1, gi, rfl, gi2, gi3⟩ := pick hg2 (j := i) (by omega)
  obtain ⟨B1, B2, B3, B4⟩ := frz_cut TX.fz gi3
  have B60 : ∀ x ∈ gi, TD 60 x := fun x hx => TX.toTD (by omega) x (gi3 x hx)
  obtain ⟨Gj, gj1, gj2⟩ := pick gi3 (j := j) (by omega)
  have a1 := A4 none (some (i : Int))
  have a2 := A4 (some ((i : Int) + 1)) none
  have g1 := G4 none (some (i : Int))
  have g2 := G4 (some ((i : Int) + 1)) none
  have b1 := B4 none (some (-1))
  have b2 := B4 none (some (j : Int))
  have b3 := B4 (some ((j : Int) + 1)) none
  have b4 := B4 (some 1) none
  have AiF := TX.fz _ ai2
  have GjF := TX.fz _ gj2
  have inG : ∀ r, SD 60 (.lst false r) → GD 60 (.lst false (cutD G none (some (i : Int)) ++ [.lst false r] ++ cutD G (some ((i : Int) + 1)) none)) := fun r hr => ⟨_, rfl, by simp; omega, allP_app (allP_app (allP_cut G60 _ _) (allP_cons hr allP_nil)) (allP_cut G60 _ _)⟩
  have kd10 : kd = 0 ∨ kd = 1 ∨ kd = 2 ∨ kd = 3 ∨ kd = 4 ∨ kd = 5 ∨ kd = 6 ∨ kd = 7 ∨ kd = 8 ∨ kd = 9 := by omega
  have n0 : ∀ (a b : Nat), a ≠ b → decide ((a : Int) = (b : Int)) = false := fun a b h => decide_eq_false (by omega)
  rcases kd10 with rfl | rfl | rfl | rfl | rfl | rfl | rfl | rfl | h89
  · simp_arith [show decide (((0 : Nat) : Int) = 0) = true from rfl, A1.1, A1.2, A2, A3, G1.1, G1.2, G2, G3, fzL_app, nbL_app]
    repeat (refine ⟨by first | (simp [line_eq, fzL_len]; done) | (simp [line_eq, fzL_len]; omega), ?_⟩)
    exact ⟨hf4, _, _, rfl, ⟨_, rfl, by simp; omega, allP_app (allP_cut A60 _ _) (allP_cut A60 _ _)⟩, SG⟩
  · simp_arith [show decide (((1 : Nat) : Int) = 0) = false from rfl, show decide (((1 : Nat) : Int) = 1) = true from rfl, A1.1, A1.2, A2, A3, G1.1, G1.2, G2, G3, fzL_app, nbL_app]
    refine (s_law_drop (by omega) hn).mono ?_
    rintro d μ5 ⟨hμ, hd⟩
    subst hμ
    (try simp_arith [hd, hdr.1, hdr.2, A1.1, A1.2, G1.1, G1.2, fzL_app, nbL_app])
    repeat (refine ⟨by first | (simp [line_eq, fzL_len]; done) | (simp [line_eq, fzL_len]; omega), ?_⟩)
    exact ⟨hf4, _, _, rfl, ⟨_, rfl, by simp; omega, allP_app A60 (allP_cons Dr60 allP_nil)⟩, SG⟩
  · simp_arith [show decide (((2 : Nat) : Int) = 0) = false from rfl, show decide (((2 : Nat) : Int) = 1) = false from rfl, show decide (((2 : Nat) : Int) = 2) = true from rfl, A1.1, A1.2, A2, A3, G1.1, G1.2, G2, G3, fzL_app, nbL_app]
    repeat (refine ⟨by first | (simp [line_eq, fzL_len]; done) | (simp [line_eq, fzL_len]; omega), ?_⟩)
    exact ⟨hf4, _, _, rfl, SA, ⟨_, rfl, by simp; omega, allP_app (allP_cut G60 _ _) (allP_cut G60 _ _)⟩⟩
  · simp_arith [show decide (((3 : Nat) : Int) = 0) = false from rfl, show decide (((3 : Nat) : Int) = 1) = false from rfl, show decide (((3 : Nat) : Int) = 2) = false from rfl, show decide (((3 : Nat) : Int) = 3) = true from rfl, A1.1, A1.2, A2, A3, G1.1, G1.2, G2, G3, fzL_app, nbL_app]
    repeat (refine ⟨by first | (simp [line_eq, fzL_len]; done) | (simp [line_eq, fzL_len]; omega), ?_⟩)
    refine wp_mapP (TD 60) (by simp [line_eq]; omega) ?_ ?_
    · intro x hx
      simp_arith []
      refine (s_law_drop (by omega) hn).mono ?_
      rintro d μ5 ⟨hμ, hd⟩
      subst hμ
      exact ⟨rfl, _, rfl, by rw [hd]; exact Dr60⟩
    intro ys y1 y2
    have y3 : ys.length ≤ 21 := by simp at y1; omega
    have Y := nbL_of TD.fz y2
    (try simp_arith [A1.1, A1.2, G1.1, G1.2, Y.1, Y.2, fzL_app, nbL_app])
    repeat (refine ⟨by first | (simp [line_eq, fzL_len]; done) | (simp [line_eq, fzL_len]; omega), ?_⟩)
    exact ⟨hf4, _, _, rfl, SA, ⟨_, rfl, by simp; omega, allP_app G60 (allP_cons ⟨_, rfl, by rw [fzL_len]; omega, y2⟩ allP_nil)⟩⟩
  · simp_arith [show decide (((4 : Nat) : Int) = 0) = false from rfl, show decide (((4 : Nat) : Int) = 1) = false from rfl, show decide (((4 : Nat) : Int) = 2) = false from rfl, show decide (((4 : Nat) : Int) = 3) = false from rfl, show decide (((4 : Nat) : Int) = 4) = true from rfl, A1.1, A1.2, A2, A3, G1.1, G1.2, G2, G3, gi1, B1.1, B1.2, B2, B3, fzL_app, nbL_app]
    repeat (refine ⟨by first | (simp [line_eq, fzL_len]; done) | (simp [line_eq, fzL_len]; omega), ?_⟩)
    exact ⟨hf4, _, _, rfl, SA, inG _ ⟨_, rfl, by omega, allP_cut B60 _ _⟩⟩
  · simp_arith [show decide (((5 : Nat) : Int) = 0) = false from rfl, show decide (((5 : Nat) : Int) = 1) = false from rfl, show decide (((5 : Nat) : Int) = 2) = false from rfl, show decide (((5 : Nat) : Int) = 3) = false from rfl, show decide (((5 : Nat) : Int) = 4) = false from rfl, show decide (((5 : Nat) : Int) = 5) = true from rfl, A1.1, A1.2, A2, A3, G1.1, G1.2, G2, G3, gi1, B1.1, B1.2, B2, B3, fzL_app, nbL_app]
    refine (s_law_drop (by omega) hn).mono ?_
    rintro d μ5 ⟨hμ, hd⟩
    subst hμ
    (try simp_arith [hd, hdr.1, hdr.2, A1.1, A1.2, G1.1, G1.2, G2, G3, B1.1, B1.2, fzL_app, nbL_app])
    repeat (refine ⟨by first | (simp [line_eq, fzL_len]; done) | (simp [line_eq, fzL_len]; omega), ?_⟩)
    exact ⟨hf4, _, _, rfl, SA, inG _ ⟨_, rfl, by simp; omega, allP_app B60 (allP_cons Dr60 allP_nil)⟩⟩
  · simp_arith [show decide (((6 : Nat) : Int) = 0) = false from rfl, show decide (((6 : Nat) : Int) = 1) = false from rfl, show decide (((6 : Nat) : Int) = 2) = false from rfl, show decide (((6 : Nat) : Int) = 3) = false from rfl, show decide (((6 : Nat) : Int) = 4) = false from rfl, show decide (((6 : Nat) : Int) = 5) = false from rfl, show decide (((6 : Nat) : Int) = 6) = true from rfl, A1.1, A1.2, A2, A3, G1.1, G1.2, G2, G3, ai1, AiF.1, AiF.2, fzL_app, nbL_app]
    refine (s_no_table (by omega) hf4 hn0 hn ai2).mono ?_
    rintro d μ5 ⟨hf5, hd⟩
    have hd60 := TD.mono (e := 60) (by omega) _ hd
    have hdf := TD.fz _ hd
    (try simp_arith [hdf.1, hdf.2, A1.1, A1.2, A2, A3, G1.1, G1.2, fzL_app, nbL_app])
    repeat (refine ⟨by first | (simp [line_eq, fzL_len]; done) | (simp [line_eq, fzL_len]; omega), ?_⟩)
    exact ⟨hf5, _, _, rfl, ⟨_, rfl, by simp; omega, allP_app (allP_app (allP_cut A60 _ _) (allP_cons hd60 allP_nil)) (allP_cut A60 _ _)⟩, SG⟩
  · simp_arith [show decide (((7 : Nat) : Int) = 0) = false from rfl, show decide (((7 : Nat) : Int) = 1) = false from rfl, show decide (((7 : Nat) : Int) = 2) = false from rfl, show decide (((7 : Nat) : Int) = 3) = false from rfl, show decide (((7 : Nat) : Int) = 4) = false from rfl, show decide (((7 : Nat) : Int) = 5) = false from rfl, show decide (((7 : Nat) : Int) = 6) = false from rfl, show decide (((7 : Nat) : Int) = 7) = true from rfl, A1.1, A1.2, A2, A3, G1.1, G1.2, G2, G3, gi1, B1.1, B1.2, B2, B3, fzL_app, nbL_app, w_mulL]
    have hfl : (List.replicate ((n : Int) - 1).toNat [D.lst false []]).flatten = List.replicate (n - 1) (D.lst false []) := by
      rw [show ((n : Int) - 1).toNat = n - 1 by omega]
      generalize n - 1 = l
      induction l with
      | zero => rfl
      | succ l ih => rw [List.replicate_succ, List.flatten_cons, ih]; rfl
    have hre : ∀ x ∈ List.replicate (n - 1) (D.lst false []), RD 60 x := fun x hx => by rw [(List.mem_replicate.1 hx).2]; exact RD_nil
    have hrf := nbL_of RD.fz hre
    rw [hfl]
    refine ⟨by simp only [line_eq]; omega, ?_⟩
    refine ⟨by simp [line_eq, fzL_len]; omega, ?_⟩
    (try simp_arith [hrf.1, hrf.2, A1.1, A1.2, A2, A3, G1.1, G1.2, G2, G3, gi1, B1.1, B1.2, B2, B3, fzL_app, nbL_app])
    repeat (refine ⟨by first | (simp [line_eq, fzL_len]; done) | (simp [line_eq, fzL_len]; omega), ?_⟩)
    exact ⟨hf4, _, _, rfl, SA, inG _ ⟨_, rfl, by simp; omega, allP_cons ⟨_, rfl, by simp; omega, allP_app hre (allP_cons (RD_one (by omega) _) allP_nil)⟩ (allP_cut B60 _ _)⟩⟩
  · have h89' : decide ((kd : Int) = 0) = false ∧ decide ((kd : Int) = 1) = false ∧ decide ((kd : Int) = 2) = false ∧ decide ((kd : Int) = 3) = false ∧ decide ((kd : Int) = 4) = false ∧ decide ((kd : Int) = 5) = false ∧ decide ((kd : Int) = 6) = false ∧ decide ((kd : Int) = 7) = false := by
      refine ⟨?_, ?_, ?_, ?_, ?_, ?_, ?_, ?_⟩ <;> exact decide_eq_false (by omega)
    obtain ⟨e0, e1, e2, e3, e4, e5, e6, e7⟩ := h89'
    simp_arith [e0, e1, e2, e3, e4, e5, e6, e7, A1.1, A1.2, A2, A3, G1.1, G1.2, G2, G3, gi1, B1.1, B1.2, B2, B3, gj1, GjF.1, GjF.2, fzL_app, nbL_app]
    refine (s_no_table (by omega) hf4 hn0 hn gj2).mono ?_
    rintro d μ5 ⟨hf5, hd⟩
    have hd60 := TD.mono (e := 60) (by omega) _ hd
    have hdf := TD.fz _ hd
    (try simp_arith [hdf.1, hdf.2, A1.1, A1.2, G1.1, G1.2, G2, G3, gi1, B1.1, B1.2, B2, B3, fzL_app, nbL_app])
    repeat (refine ⟨by first | (simp [line_eq, fzL_len]; done) | (simp [line_eq, fzL_len]; omega), ?_⟩)
    exact ⟨hf5, _, _, rfl, SA, inG _ ⟨_, rfl, by simp; omega, allP_app (allP_app (allP_cut B60 _ _) (allP_cons hd60 allP_nil)) (allP_cut B60 _ _)⟩⟩
theorem s_bent_again {k n : Nat} {m : Mc} (hk : 8 ≤ k) (hf : FO μ) (hmd : MD 60 (eM m)) (h0 : 0 < m.1.length) (h1 : m.2.length = m.1.length) (h2 : ∀ r ∈ m.2, r.length = m.1.length) : Wp (run pp k (Str.ofString "_law_bent_again") [.ref 0, .int n, eM m]) μ (fun d μ' => FO μ' ∧ MD 130 d.fz) X := by
  obtain ⟨k, rfl⟩ : ∃ j, k = j + 8 := ⟨k - 8, by omega⟩
  obtain ⟨m', hm1, hm2⟩ := MD.typed (by omega) _ hmd
  have hmf := MD.fz _ hmd
  obtain ⟨a, g⟩ := m
  have hmd' := hmd
  obtain ⟨_, _, e, ⟨A, rfl, ha1, ha2⟩, ⟨G, rfl, hg1, hg2⟩⟩ := hmd'
  rw [u_M, u_S, u_G] at e
  injection e with e
  injection e with e1 e2
  injection e2 with e2
  injection e1 with _ e1
  injection e2 with _ e2
  subst e1; subst e2
  simp only at h0 h1 h2
  obtain ⟨A1, A2, A3, A4⟩ := frz_cut TD.fz ha2
  obtain ⟨G1, G2, G3, G4⟩ := frz_cut SD.fz hg2
  have A62 : ∀ x ∈ a.map eT, TD 130 x := fun x hx => TD.mono (by omega) x (ha2 x hx)
  have G62 : ∀ x ∈ g.map eS, SD 130 x := fun x hx => SD.mono (by omega) x (hg2 x hx)
  have la : a.length ≤ 60 := by simpa using ha1
  have lg : g.length ≤ 60 := by simpa using hg1
  rw [e__law_bent_again]
  simp_arith [P50.f__law_bent_again, hmf.1, hmf.2]
  rw [hm1]
  refine (anM (k + 7) m' _ _ (by omega) hm2).mono ?_
  rintro d μ1 ⟨hμ, hd⟩
  subst hμ
  rw [← hm1, u_M, u_S, u_G] at hd
  simp_arith [hd, A1.1, A1.2, G1.1, G1.2]
  refine (s_draw (by omega) hf h0 (by omega)).mono ?_
  rintro _ μ2 ⟨hf2, i, rfl, hi⟩
  simp_arith [A1.1, A1.2]
  refine (s_draw (by omega) hf2 h0 (by omega)).mono ?_
  rintro _ μ3 ⟨hf3, j, rfl, hj⟩
  simp_arith []
  refine (s_draw (many := 2) (by omega) hf3 (by omega) (by omega)).mono ?_
  rintro _ μ4 ⟨hf4, kd, rfl, hkd⟩
  have gi1 := eL_get eS g i (by omega)
  have ai1 := eL_get eT a i hi
  have hgl := h2 g[i] (List.getElem_mem (by omega))
  have gj1 := eL_get eT g[i] j (by omega)
  have ai2 := ha2 _ (List.mem_map_of_mem (List.getElem_mem hi))
  have gi2 := hg2 _ (List.mem_map_of_mem (f := eS) (List.getElem_mem (show i < g.length by omega)))
  rw [u_S] at gi2 gi1
  obtain ⟨gi, e, gi3, gi4⟩ := gi2
  injection e with _ e
  subst e
  obtain ⟨B1, B2, B3, B4⟩ := frz_cut TD.fz gi4
  have B62 : ∀ x ∈ g[i].map eT, TD 130 x := fun x hx => TD.mono (by omega) x (gi4 x hx)
  have gj2 := gi4 _ (List.mem_map_of_mem (f := eT) (List.getElem_mem (show j < g[i].length by omega)))
  obtain ⟨ri, ai3, ai4, ai5⟩ := ai2
  obtain ⟨rj, gj3, gj4, gj5⟩ := gj2
  rw [ai3] at ai1
  rw [gj3] at gj1
  have R1 := nbL_of RD.fz ai5
  have R2 := nbL_of RD.fz gj5
  have a1 := A4 none (some (i : Int))
  have a2 := A4 (some ((i : Int) + 1)) none
  have g1 := G4 none (some (i : Int))
  have g2 := G4 (some ((i : Int) + 1)) none
  have b2 := B4 none (some (j : Int))
  have b3 := B4 (some ((j : Int) + 1)) none
  simp only [List.length_map] at a1 a2 g1 g2 b2 b3
  cases h01 : decide ((kd : Int) = 0) with
  | true =>
    simp_arith [h01, A1.1, A1.2, A2, A3, G1.1, G1.2, ai1, R1.1, R1.2, fzL_app, nbL_app]
    repeat (refine ⟨by first | (simp [line_eq, fzL_len]; done) | (simp [line_eq, fzL_len]; omega), ?_⟩)
    exact ⟨hf4, _, _, rfl, ⟨_, rfl, by simp; omega, allP_app (allP_app (allP_cut A62 _ _) (allP_cons ⟨_, rfl, by simp; omega, allP_app (fun x hx => RD.mono (by omega) x (ai5 x hx)) (allP_cons RD_nil allP_nil)⟩ allP_nil)) (allP_cut A62 _ _)⟩, ⟨_, rfl, by simp; omega, G62⟩⟩
  | false =>
    simp_arith [h01, A1.1, A1.2, A2, A3, G1.1, G1.2, G2, G3, gi1, B1.1, B1.2, B2, B3, gj1, R2.1, R2.2, fzL_app, nbL_app]
    repeat (refine ⟨by first | (simp [line_eq, fzL_len]; done) | (simp [line_eq, fzL_len]; omega), ?_⟩)
    refine ⟨hf4, _, _, rfl, ⟨_, rfl, by simp; omega, A62⟩, ⟨_, rfl, by simp; omega, allP_app (allP_app (allP_cut G62 _ _) (allP_cons ⟨_, rfl, by simp; omega, allP_app (allP_app (allP_cut B62 _ _) (allP_cons ⟨_, rfl, by simp; omega, allP_app (fun x hx => RD.mono (by omega) x (gj5 x hx)) (allP_cons RD_nil allP_nil)⟩ allP_nil)) (allP_cut B62 _ _)⟩ allP_nil)) (allP_cut G62 _ _)⟩⟩
end
/-! W20 -/
theorem enc_fz (x : Option (Int × Int)) : (enc x).nb = true ∧ (enc x).fz = enc x := Sm.fz _ _ (sm_enc x)
section
variable {μ : Sto} {X : Str → List D → Sto → Prop}
theorem MX.fz {n s : Nat} (d : D) (h : MX n s d) : d.nb = true ∧ d.fz = d := by
  obtain ⟨a, b, rfl, h1, h2⟩ := h
  have h3 := LP.fz TX.fz a h1
  have h4 := LP.fz (LP.fz TX.fz) b h2
  simp [D.nb, D.nbL, D.fz, D.fzL, h3.1, h3.2, h4.1, h4.2]
theorem MD.mono {c e : Nat} (hc : c ≤ e) (d : D) (h : MD c d) : MD e d := by
  obtain ⟨a, g, rfl, h1, h2⟩ := h
  exact ⟨a, g, rfl, SD.mono hc a h1, GD.mono hc g h2⟩
theorem s_law_right {k s : Nat} {F m : D} {ws : List Nat} (hF : Fd F ws) (hk : 10 ≤ k) (hf : FO μ) (hs : s ≤ 20) (hm : MX (prd ws) s m) : Wp (run pp k (Str.ofString "_law_right") [.ref 0, F, m]) μ (fun d μ' => FO μ' ∧ d = .bl true) X := by
  obtain ⟨k, rfl⟩ : ∃ j, k = j + 10 := ⟨k - 10, by omega⟩
  have hn : prd ws ≤ 16 := by cases hF <;> decide
  have hn0 : 0 < prd ws := by cases hF <;> decide
  have hFf : F.nb = true ∧ F.fz = F := by cases hF <;> exact ⟨rfl, rfl⟩
  have hmf := MX.fz m hm
  have hmd := MX.toMD (c := 130) (by omega) (by omega) m hm
  have hm' := hm
  obtain ⟨a, b, rfl, ha, hb⟩ := hm'
  have ha1 := LP.fz TX.fz a ha
  have hb1 := LP.fz (LP.fz TX.fz) b hb
  have ha2 : SD 130 a := LP.toLB (TX.toTD (by omega)) (by omega) _ ha
  have hb2 : GD 130 b := LP.toLB (LP.toLB (TX.toTD (by omega)) (by omega)) (by omega) _ hb
  rw [e__law_right]
  simp_arith [P50.f__law_right, hFf.1, hFf.2]
  refine Wp.of_ok (c_law_many hF (k + 5) _) ?_
  simp_arith [ha1.1, ha1.2, hb1.1, hb1.2, atI_0, atI_1]
  refine ⟨by omega, ?_⟩
  refine wp_for (fun _ _ => False) _ (fun i ρ μ' => FO μ' ∧ ∃ ps r5 r6 r7, ρ = [some (.ref 0), some F, some (.tup [a, b]), some (.int (prd ws : Nat)), some (.lst true ps), r5, r6, r7] ∧ ps.length ≤ 4 + 2 * i ∧ ∀ x ∈ D.fzL ps, MD 130 x) _ _ ⟨hf, _, none, none, none, rfl, by simp, ?_⟩ ?_ ?_ (fun _ _ h => h.elim)
  · have e0 : SD 130 (.lst false []) := ⟨_, rfl, by simp, allP_nil⟩
    have e1 : GD 130 (.lst false []) := ⟨_, rfl, by simp, allP_nil⟩
    simp only [D.fzL, D.fz, ha1.2, hb1.2]
    exact allP_cons hmd (allP_cons ⟨_, _, rfl, e0, e1⟩ (allP_cons ⟨_, _, rfl, e0, hb2⟩ (allP_cons ⟨_, _, rfl, ha2, e1⟩ allP_nil)))
  · rintro i hi _ μ1 ⟨hf1, ps, r5, r6, r7, rfl, hl, hps⟩
    have hi7 : i < 7 := by simpa using hi
    simp only [List.getElem_map, List.getElem_range]
    simp_arith [ha1.1, ha1.2, hb1.1, hb1.2]
    refine (s_bent (by omega) hf1 hn0 hn hs hm).mono ?_
    rintro d μ2 ⟨hf2, hd⟩
    have hdf := MD.fz _ hd
    obtain ⟨⟨A, G⟩, hd2, hd3⟩ := MD.typed (by omega) _ hd
    have hps2 : ∀ x ∈ D.fzL (ps ++ [d.fz]), MD 130 x := by
      rw [fzL_app]
      exact allP_app hps (allP_cons (by rw [hdf.2]; exact MD.mono (by omega) _ hd) allP_nil)
    rw [hd2] at hd hdf hps2
    have aF := frzS A
    have gF := frzG G
    have aF2 := nbL_map frzT A
    have gF2 := nbL_map frzS G
    have hz2 : G.length ≤ 200 := hd3.2.1
    have hdf' := hdf
    rw [u_M] at hdf'
    (try simp_arith [hd2, hdf.1, hdf.2])
    refine ⟨by simp [line_eq]; omega, ?_⟩
    rw [u_M]
    simp_arith [aF.1, aF.2, gF.1, gF.2, atI_0, u_S, aF2.1, aF2.2]
    rw [u_M, u_S] at hps2
    by_cases c1 : 0 < A.length
    rotate_left
    · rw [show decide ((0 : Int) < (A.length : Int)) = false from decide_eq_false (by omega)]
      simp_arith []
      exact ⟨hf2, _, _, _, _, rfl, by simp; omega, hps2⟩
    rw [show decide ((0 : Int) < (A.length : Int)) = true from decide_eq_true (by omega)]
    simp_arith [gF.1, gF.2, atI_0, atI_1, aF2.1, aF2.2]
    simp_arith [u_G, gF2.1, gF2.2]
    by_cases c2 : G.length = A.length
    rotate_left
    · rw [show decide ((G.length : Int) = (A.length : Int)) = false from decide_eq_false (by omega)]
      simp_arith []
      rw [u_G] at hps2
      exact ⟨hf2, _, _, _, _, rfl, by simp; omega, hps2⟩
    rw [show decide ((G.length : Int) = (A.length : Int)) = true from decide_eq_true (by omega)]
    simp_arith [gF2.1, gF2.2, atI_0, atI_1, aF2.1, aF2.2]
    refine wp_mapF eS (fun r => decide (r.length ≠ A.length)) G [] _ (by simp [line_eq]; omega) ?_ ?_
    · intro r hr
      have h3 := frzS r
      have h4 := nbL_map frzT r
      simp_arith [u_S, h4.1, h4.2, gF2.1, gF2.2, aF2.1, aF2.2, atI_0, atI_1]
      by_cases c : r.length = A.length
      · rw [show decide ((r.length : Int) = (A.length : Int)) = true from decide_eq_true (by omega)]
        simp_arith []
        simp [c]
      · rw [show decide ((r.length : Int) = (A.length : Int)) = false from decide_eq_false (by omega)]
        simp_arith [h4.1, u_S, h4.2]
        simp [c, u_S]
    have g3 := nbL_map frzS (G.filter fun r => decide (r.length ≠ A.length))
    simp_arith [g3.2]
    by_cases c4 : (G.filter fun r => decide (r.length ≠ A.length)).length = 0
    rotate_left
    · rw [show decide (((G.filter fun r => decide (r.length ≠ A.length)).length : Int) = 0) = false from decide_eq_false (by omega)]
      simp_arith []
      rw [u_G] at hps2
      exact ⟨hf2, _, _, _, _, rfl, by simp; omega, hps2⟩
    rw [show decide (((G.filter fun r => decide (r.length ≠ A.length)).length : Int) = 0) = true from decide_eq_true (by omega)]
    have c5 : ∀ r ∈ G, r.length = A.length := by
      rw [List.length_eq_zero_iff, List.filter_eq_nil_iff] at c4
      intro r hr
      have := c4 r hr
      simpa using this
    simp_arith [gF2.1, gF2.2, aF2.1, aF2.2]
    have hba := s_bent_again (μ := μ2) (X := X) (k := k + 9) (n := prd ws) (m := (A, G)) (by omega) hf2 hd c1 c2 c5
    rw [u_M, u_S, u_G] at hba
    refine hba.mono ?_
    rintro d2 μ3 ⟨hf3, hd4⟩
    have hd5 := MD.fz _ hd4
    (try simp_arith [])
    rw [u_G] at hps2
    refine ⟨by simp [line_eq]; omega, hf3, _, _, _, _, rfl, by simp; omega, ?_⟩
    rw [fzL_app]
    exact allP_app hps2 (allP_cons hd4 allP_nil)
  · rintro _ μ1 ⟨hf1, ps, r5, r6, r7, rfl, hl, hps⟩
    have P := nbL_of MD.fz hps
    simp_arith [P.1, P.2]
    refine wp_for (fun _ _ => False) _ (fun i ρ μ' => FO μ' ∧ ∃ r6, ρ = [some (.ref 0), some F, some (.tup [a, b]), some (.int (prd ws : Nat)), some (.lst false (D.fzL ps)), r5, r6, r7]) _ _ ⟨hf1, r6, rfl⟩ ?_ ?_ (fun _ _ h => h.elim)
    · rintro i hi _ μ2 ⟨hf2, r6, rfl⟩
      obtain ⟨m, e, hz⟩ := MD.typed (by omega) _ (hps _ (List.getElem_mem hi))
      rw [e]
      have mf := frzM m
      simp_arith [mf.1, mf.2, hFf.1, hFf.2]
      refine (s_law_told hF (by omega) hz).mono ?_
      rintro d μ3 ⟨hμ, hd⟩
      subst hμ
      (try simp_arith [mf.1, mf.2])
      refine (s_law_fault (by omega) hz).mono ?_
      rintro d2 μ4 ⟨hμ, hd2⟩
      subst hμ
      subst hd2
      simp_arith [hd, (enc_fz _).2]
      refine (s_law_same 1 _ (sm_enc _) _ _ _ (by omega)).mono ?_
      rintro d3 μ5 ⟨hμ, hd3⟩
      subst hμ
      subst hd3
      simp_arith []
      exact ⟨hf2, _, rfl⟩
    · rintro _ μ2 ⟨hf2, r6, rfl⟩
      simp_arith []
      exact hf2
end
/-! W21 -/
theorem Up.rowB {n : Nat} {r : Row} (h : Up n r) : rowB n r = true := by
  rw [rowB_iff]
  intro j hj
  have e : ∀ i (hi : i < r.length), r.getD i 0 = r[i] := fun i hi => by simp [List.getD, hi]
  have hp := List.pairwise_iff_getElem.1 h.1
  refine ⟨by rw [e j hj]; exact h.2 _ (List.getElem_mem hj), fun h0 => ?_⟩
  rw [e j hj, e (j - 1) (by omega)]
  exact hp (j - 1) j (by omega) hj (by omega)
theorem Rw.typed {n : Nat} (hn : n ≤ 16) (d : D) (h : Rw n d) : ∃ r, d = eR r ∧ zR r ∧ rowB n r = true := by
  obtain ⟨r, rfl, hr⟩ := h
  have := hr.len
  exact ⟨r, rfl, ⟨by omega, fun _ _ => trivial⟩, hr.rowB⟩
theorem Tab.typed {n : Nat} (hn : n ≤ 16) (d : D) (h : Tab n d) : ∃ t, d = eT t ∧ zT t ∧ tabB n t = true := by
  obtain ⟨ds, rfl, h1, h2⟩ := h
  obtain ⟨t, rfl, h3⟩ := choose_map (fun y hy => Rw.typed hn y (h2 y hy))
  simp at h1
  refine ⟨t, rfl, ⟨by omega, fun a ha => (h3 a ha).1⟩, ?_⟩
  simp only [tabB, Bool.and_eq_true, decide_eq_true_eq, List.all_eq_true]
  exact ⟨h1, fun a ha => (h3 a ha).2⟩
theorem tabB_rep (n : Nat) : tabB n (List.replicate n []) = true := by
  simp [tabB, rowB, risB]
theorem goB_rep (n : Nat) : goB n 0 (List.replicate n []) = true := by
  rw [goB_alt (tabB_rep n)]; simp
def goeB (n s : Nat) (r : List Tb) : Prop := r.length = s + 1 ∧ ∃ cs, r = List.replicate n [] :: cs ∧ ∀ t ∈ cs, tabB n t = true
theorem Goe.typed {n s : Nat} (hn : n ≤ 16) (hs : s ≤ 30) (d : D) (h : Goe n s d) : ∃ r, d = eS r ∧ zS r ∧ goeB n s r := by
  obtain ⟨cs, rfl, h1, h2⟩ := h
  obtain ⟨ts, rfl, h3⟩ := choose_map (fun y hy => Tab.typed hn y (h2 y hy))
  simp at h1
  refine ⟨List.replicate n [] :: ts, by rw [u_S, List.map_cons, Dr_eT], ⟨by simp; omega, ?_⟩, by simp; omega, ts, rfl, fun t ht => (h3 t ht).2⟩
  intro t ht
  rcases List.mem_cons.1 ht with rfl | ht
  · refine ⟨by simp; omega, ?_⟩
    intro r hr
    rw [(List.mem_replicate.1 hr).2]
    exact ⟨by simp, fun _ _ => trivial⟩
  · exact (h3 t ht).1
theorem fe_none {n : Nat} : ∀ (ts : List Tb) (i : Nat), (∀ t ∈ ts, tabB n t = true) → fe n i ts = none
  | [], _, _ => rfl
  | t :: ts, i, h => by
    rw [fe, if_pos (h t List.mem_cons_self)]
    exact fe_none ts _ (fun t ht => h t (List.mem_cons_of_mem _ ht))
theorem fr_none {n i : Nat} : ∀ (ts : List Tb) (j : Nat), 0 < j → (∀ t ∈ ts, tabB n t = true) → fr n i j ts = none
  | [], _, _, _ => rfl
  | t :: ts, j, hj, h => by
    rw [fr, if_pos]
    · exact fr_none ts _ (by omega) (fun t ht => h t (List.mem_cons_of_mem _ ht))
    · rw [goB, h t List.mem_cons_self, decide_eq_true (show j ≠ 0 by omega)]; rfl
theorem fg_none {n s : Nat} : ∀ (g : List (List Tb)) (i : Nat), (∀ r ∈ g, goeB n s r) → fg n i g = none
  | [], _, _ => rfl
  | r :: g, i, h => by
    obtain ⟨_, cs, e, h2⟩ := h r List.mem_cons_self
    have : fr n i 0 r = none := by
      rw [e, fr, if_pos (goB_rep n)]
      exact fr_none cs 1 (by omega) h2
    rw [fg, this]
    exact fg_none g _ (fun r hr => h r (List.mem_cons_of_mem _ hr))
theorem Mch.typed {n s : Nat} (hn : n ≤ 16) (hs : s ≤ 12) (d : D) (h : Mch n s d) : ∃ m, d = eM m ∧ zM m ∧ fault n m = none := by
  obtain ⟨a, b, rfl, ⟨as, rfl, h1, h2⟩, ⟨bs, rfl, h3, h4⟩⟩ := h
  obtain ⟨A, rfl, h5⟩ := choose_map (fun y hy => Tab.typed hn y (h2 y hy))
  obtain ⟨G, rfl, h6⟩ := choose_map (fun y hy => Goe.typed hn (by omega) y (h4 y hy))
  simp at h1 h3
  have hfit : fitB (A, G) = true := by
    simp only [fitB, Bool.and_eq_true, decide_eq_true_eq, List.all_eq_true]
    refine ⟨⟨⟨by omega, by omega⟩, by omega⟩, ?_⟩
    intro r hr
    have := (h6 r hr).2.1
    omega
  refine ⟨(A, G), rfl, ⟨⟨by simp; omega, fun t ht => (h5 t ht).1⟩, ⟨by simp; omega, fun r hr => (h6 r hr).1⟩⟩, ?_⟩
  have e1 : fe n 0 A = none := fe_none A 0 (fun t ht => (h5 t ht).2)
  have e2 : fg n 0 G = none := fg_none G 0 (fun r hr => (h6 r hr).2)
  simp only [fault, hfit, e1, e2, if_true]
section
variable {X : Str → List D → Sto → Prop}
theorem w_newRef {Ψ : Cfg} {ρ : Env} {μ : Sto} {Q : D → Sto → Prop} {es : List E} : Wp (evE Ψ (.newRef es) ρ) μ Q X = Wp (evEs Ψ es ρ) μ (fun ds μ1 => (decide (ds.length ≤ LINE) && D.nbL (ds.map D.fz)) = true ∧ Q (.ref μ1.length) (μ1 ++ [ds.map D.fz])) X := by
  simp only [evE, wp_bind, wp_guard]
  congr
  funext a μ1
  exact congrArg _ (wp_ok rfl)
theorem s_feed {k : Nat} (hk : 1 ≤ k) (ns : List Int) (hl : ns.length ≤ 100) : Wp (run pp k (Str.ofString "_law_feed") [.lst false (ns.map .int)]) [] (fun d μ' => d = .ref 0 ∧ FO μ') X := by
  obtain ⟨k, rfl⟩ : ∃ j, k = j + 1 := ⟨k - 1, by omega⟩
  rw [e__law_feed]
  simp_arith [P50.f__law_feed, w_newRef, nbL_ints, fzL_ints, List.map_cons, List.map_nil]
  exact ⟨ns, 0, 0, 1, rfl, by omega⟩
theorem w_notN1 {μ : Sto} {Q : D → Sto → Prop} : Wp (cmpD .notN .non .non) μ Q X = Q (.bl false) μ := by
  rw [show cmpD .notN .non .non = M.ret (.bl false) from rfl, wp_ret]
theorem great_fault {s n : Nat} {m : Mc} (h : MX n s (eM m)) (hs : 13 ≤ s) : fault n m = some (-1, -1) := by
  obtain ⟨A, G⟩ := m
  obtain ⟨a, b, e, ⟨as, rfl, h1, h2⟩, _⟩ := h
  rw [u_M, u_S] at e
  injection e with e
  injection e with e1 e2
  injection e1 with _ e1
  subst e1
  simp at h1
  have : fitB (A, G) = false := by
    simp only [fitB]
    rw [show decide (A.length ≤ 13) = false from decide_eq_false (by omega)]
    simp
  simp [fault, this]
/-- one turn of the law -/
def lawBody : List S := match P50.f_law.body with
  | _ :: .for_ _ _ b :: _ => b
  | _ => []
theorem s_turn {k : Nat} {μ : Sto} (hf : FO μ) (a0 : D) (r2 r3 r4 r5 : Option D) (h0 : a0.nb = true) : Wp (exSs (Φ (k + 40)) lawBody [some a0, some (.ref 0), r2, r3, r4, r5, none, none, none]) μ (fun fl μ' => FO μ' ∧ ∃ r3 r4 r5, fl = .nx [some a0, some (.ref 0), r2, r3, r4, r5, none, none, none]) X := by
  have rest : ∀ (μ : Sto) (F : D) (ws : List Nat) (s : Nat), FO μ → Fd F ws → s ≤ 20 → Wp (exSs (Φ (k + 40)) (lawBody.drop 3) [some a0, some (.ref 0), r2, some F, some (.int s), r5, none, none, none]) μ (fun fl μ' => FO μ' ∧ ∃ r3 r4 r5, fl = .nx [some a0, some (.ref 0), r2, r3, r4, r5, none, none, none]) X := by
    intro μ F ws s hf hF hs
    have hn : prd ws ≤ 16 := by cases hF <;> decide
    have hFf : F.nb = true ∧ F.fz = F := by cases hF <;> exact ⟨rfl, rfl⟩
    simp_arith [lawBody, P50.f_law, List.drop_succ_cons, List.drop_zero, hFf.1, hFf.2]
    refine Wp.of_ok (c_law_many hF (k + 36) _) ?_
    (try simp_arith [hFf.1, hFf.2])
    refine (s_draw (many := 4) (by omega) hf (by omega) (by omega)).mono ?_
    rintro _ μ1 ⟨hf1, th, rfl, hth⟩
    (try simp_arith [hFf.1, hFf.2])
    rw [show (2 : Int) + (th : Nat) = ((th + 2 : Nat) : Int) by omega]
    refine (s_some_machine (by omega) hf1 hn (by omega) (by omega) (by omega)).mono ?_
    rintro d μ2 ⟨hf2, hd⟩
    (try simp_arith [])
    refine (s_law_right hF (by omega) hf2 hs hd).mono ?_
    rintro _ μ3 ⟨hf3, rfl⟩
    simp_arith [hFf.1, hFf.2]
    refine (s_draw (many := 8) (by omega) hf3 (by omega) (by omega)).mono ?_
    rintro _ μ4 ⟨hf4, sz, rfl, hsz⟩
    (try simp_arith [hFf.1, hFf.2])
    rw [show (2 : Int) + (sz : Nat) = ((sz + 2 : Nat) : Int) by omega]
    refine (s_policy hF (k + 40) (sz + 2) _ _ hf4 (by omega) (by omega) (by omega)).mono ?_
    rintro d μ5 ⟨hf5, p, hp, hp2, hp3⟩
    have hpf := p.fz
    have hph := p.hs_le
    simp_arith [hp, hpf.1, hpf.2, hFf.1, hFf.2]
    refine (s_machine_of hF p (by omega) hp2 (by omega)).mono ?_
    rintro d μ6 ⟨hμ, hd⟩
    subst hμ
    obtain ⟨m, hm, hz, hfl⟩ := Mch.typed hn (by omega) _ hd
    simp_arith [hm, hFf.1, hFf.2]
    refine (s_law_told hF (by omega) hz).mono ?_
    rintro d μ7 ⟨hμ, hd⟩
    subst hμ
    rw [hfl, enc] at hd
    simp_arith [hd, w_notN1]
    exact ⟨hf5, _, _, _, rfl⟩
  have e3 : lawBody = lawBody.take 3 ++ lawBody.drop 3 := (List.take_append_drop 3 _).symm
  have e4 : lawBody.take 3 = [.set true (.nm 3) (.call (Str.ofString "_law_fields") [(.var 1), (.int 5)]), .set true (.nm 4) (.call (Str.ofString "_law_draw") [(.var 1), (.int 4)]), .ife (.cmp .eq (.call (Str.ofString "_law_draw") [(.var 1), (.int 6)]) (.int 0)) [.set true (.nm 3) (.lst [(.tup [(.str (Str.ofString "a")), (.int 2)])]), .set true (.nm 4) (.int 12)] []] := rfl
  rw [e3, e4]
  simp_arith []
  refine (s_fields (by omega) hf).mono ?_
  rintro d μ1 ⟨hf1, ws, hF⟩
  (try simp_arith [])
  refine (s_draw (many := 4) (by omega) hf1 (by omega) (by omega)).mono ?_
  rintro _ μ2 ⟨hf2, s, rfl, hs⟩
  (try simp_arith [])
  refine (s_draw (many := 6) (by omega) hf2 (by omega) (by omega)).mono ?_
  rintro _ μ3 ⟨hf3, z, rfl, hz⟩
  simp_arith []
  cases decide ((z : Int) = 0) with
  | true =>
    simp_arith []
    exact rest μ3 (fA 2) [2] 12 hf3 .a2 (by omega)
  | false =>
    simp_arith []
    exact rest μ3 d.fz ws s hf3 hF (by omega)
end
/-! W22 -/
section
variable {X : Str → List D → Sto → Prop}
theorem law_cut : P50.f_law.body = .set true (.nm 1) (.call (Str.ofString "_law_feed") [(.var 0)]) :: .for_ (.nm 2) (.rng1 (.int 3)) lawBody :: P50.f_law.body.drop 2 := rfl
def m0 : Mc := ([[[], []]], [[[[], []]]])
def m1 : Mc := ([[[], []], [[1, 0], []]], [[[[], []], [[], []]], [[[0], []], [[], []]]])
def m2 : Mc := ([[[], []], [[0, 1], []]], [[[[], []], [[], []]], [[[0], []], [[], []]]])
theorem z0 : zM m0 := by simp [zM, zS, zG, zT, zR, zL, m0]
theorem z1 : zM m1 := by simp [zM, zS, zG, zT, zR, zL, m1]
theorem z2 : zM m2 := by simp [zM, zS, zG, zT, zR, zL, m2]
theorem f0 : fault 2 m0 = none := by decide +kernel
theorem f1 : fault 2 m1 = some (1, -1) := by decide +kernel
theorem f2 : fault 2 m2 = some (1, 0) := by decide +kernel
theorem f3 : fault 3 m2 = some (0, -1) := by decide +kernel
theorem told0 {k : Nat} {μ : Sto} (hk : 9 ≤ k) : Wp (run pp k (Str.ofString "_law_told") [fA 2, eM m0]) μ (Pu (· = enc none) μ) X := by
  have h := s_law_told (X := X) (μ := μ) (F := fA 2) (ws := [2]) (m := m0) .a2 hk z0
  rw [show fault (prd [2]) m0 = none from f0] at h
  exact h
theorem told1 {k : Nat} {μ : Sto} (hk : 9 ≤ k) : Wp (run pp k (Str.ofString "_law_told") [fA 2, eM m1]) μ (Pu (· = enc (some (1, -1))) μ) X := by
  have h := s_law_told (X := X) (μ := μ) (F := fA 2) (ws := [2]) (m := m1) .a2 hk z1
  rw [show fault (prd [2]) m1 = some (1, -1) from f1] at h
  exact h
theorem told2 {k : Nat} {μ : Sto} (hk : 9 ≤ k) : Wp (run pp k (Str.ofString "_law_told") [fA 2, eM m2]) μ (Pu (· = enc (some (1, 0))) μ) X := by
  have h := s_law_told (X := X) (μ := μ) (F := fA 2) (ws := [2]) (m := m2) .a2 hk z2
  rw [show fault (prd [2]) m2 = some (1, 0) from f2] at h
  exact h
theorem told3 {k : Nat} {μ : Sto} (hk : 9 ≤ k) : Wp (run pp k (Str.ofString "_law_told") [fA 3, eM m2]) μ (Pu (· = enc (some (0, -1))) μ) X := by
  have h := s_law_told (X := X) (μ := μ) (F := fA 3) (ws := [3]) (m := m2) .a3 hk z2
  rw [show fault (prd [3]) m2 = some (0, -1) from f3] at h
  exact h
theorem s_law {k : Nat} (ns : List Int) (hl : ns.length ≤ 63) : Wp (run pp (k + 41) (Str.ofString "law") [.lst false (ns.map .int)]) [] (fun d _ => d = .bl true) nX := by
  have hn : (D.lst false (ns.map .int)).nb = true ∧ (D.lst false (ns.map .int)).fz = D.lst false (ns.map .int) := by simp [D.nb, D.fz, nbL_ints, fzL_ints]
  rw [e_law, law_cut]
  generalize hd2 : P50.f_law.body.drop 2 = rest
  simp_arith [nbL_ints, fzL_ints]
  refine (s_feed (by omega) ns (by omega)).mono ?_
  rintro _ μ1 ⟨rfl, hf1⟩
  simp_arith []
  repeat (refine ⟨by first | (simp [line_eq, fzL_len]; done) | (simp [line_eq, fzL_len]; omega), ?_⟩)
  refine wp_for (fun _ _ => False) _ (fun i ρ μ' => FO μ' ∧ ∃ r2 r3 r4 r5, ρ = [some (.lst false (ns.map .int)), some (.ref 0), r2, r3, r4, r5, none, none, none]) _ _ ⟨hf1, none, none, none, none, rfl⟩ ?_ ?_ (fun _ _ h => h.elim)
  · rintro i hi _ μ2 ⟨hf2, r2, r3, r4, r5, rfl⟩
    simp only [List.getElem_map, List.getElem_range]
    simp_arith []
    refine (s_turn hf2 _ _ _ _ _ hn.1).mono ?_
    rintro _ μ3 ⟨hf3, r3, r4, r5, rfl⟩
    simp_arith []
    exact ⟨hf3, _, _, _, _, rfl⟩
  rintro _ μ2 ⟨hf2, r2, r3, r4, r5, rfl⟩
  subst hd2
  simp_arith [P50.f_law, List.drop_succ_cons, List.drop_zero]
  refine (s_some_machine (n := 2) (s := 13) (thick := 4) (by omega) hf2 (by omega) (by omega) (by omega) (by omega)).mono ?_
  rintro d μ3 ⟨hf3, hd⟩
  obtain ⟨m, hm, hz⟩ := MD.typed (by omega) _ (MX.toMD (c := 20) (by omega) (by omega) _ hd)
  have hmf := frzM m
  rw [hm] at hd
  have hgf := great_fault hd (by omega)
  simp_arith [hm, hmf.1, hmf.2]
  refine (s_law_told (F := fA 2) (ws := [2]) .a2 (by omega) hz).mono ?_
  rintro d1 μ4 ⟨hμ, hd1⟩
  subst hμ
  rw [show fault (prd [2]) m = some (-1, -1) from hgf, enc] at hd1
  (try simp_arith [])
  refine (told0 (by omega)).mono ?_
  rintro d2 μ5 ⟨hμ, hd2⟩
  subst hμ
  rw [enc] at hd2
  simp_arith [hd1, hd2]
  refine (s_law_same 2 (.lst false [.tup [.int (-1), .int (-1)], .non]) (.lst 1 _ (by simp) (allP_cons (sm_enc (some (-1, -1))) (allP_cons (sm_enc none) allP_nil))) _ _ _ (by omega)).mono ?_
  rintro _ μ6 ⟨hμ, rfl⟩
  subst hμ
  simp_arith [atI_1]
  refine (told1 (by omega)).mono ?_
  rintro d3 μ6 ⟨hμ, hd3⟩
  subst hμ
  rw [enc] at hd3
  (try simp_arith [])
  refine (told2 (by omega)).mono ?_
  rintro d4 μ6 ⟨hμ, hd4⟩
  subst hμ
  rw [enc] at hd4
  (try simp_arith [])
  refine (told3 (by omega)).mono ?_
  rintro d5 μ6 ⟨hμ, hd5⟩
  subst hμ
  rw [enc] at hd5
  simp_arith [hd3, hd4, hd5]
  refine (s_law_same 2 (.lst false [.tup [.int 1, .int (-1)], .tup [.int 1, .int 0], .tup [.int 0, .int (-1)]]) (.lst 1 _ (by simp) (allP_cons (sm_enc (some (1, -1))) (allP_cons (sm_enc (some (1, 0))) (allP_cons (sm_enc (some (0, -1))) allP_nil)))) _ _ _ (by omega)).mono ?_
  rintro _ μ6 ⟨hμ, rfl⟩
  subst hμ
  (try simp_arith [])
theorem hrun (ns : List Int) (hl : ns.length ≤ 63) : ∃ μ, run pp 228 (Str.ofString "law") [.lst false (ns.map .int)] [] = .ok (.bl true) μ := by
  obtain ⟨a, μ, h, rfl⟩ := (s_law (k := 187) ns hl).get
  exact ⟨μ, h⟩
end

end Vf.Q

set_option maxHeartbeats 200000
set_option Elab.async false
set_option linter.all false
set_option maxRecDepth 100000
open PySem PySem.W PyProof.Rows
set_option maxHeartbeats 0 in
theorem PySem.Challenge.cw_parcelways_k50_whole_machines_checked_holds : PySem.Challenge.rw_parcelways_k50_whole_machines_checked.Holds := by
  w_on; o_law; k_head; (case hw => w_witness2)
  k_fill
  refine L2.walk_of (l := PySem.Challenge.rw_parcelways_k50_whole_machines_checked) (n := 63) (k := 230) (x := "script") (CX := fun w => L2.CX PySem.Challenge.pw_parcelways_k50_whole_machines_checked w) (sp := fun w => Vf.spLaw _ 63) rfl (by decide) rfl ⟨rfl, by decide, by decide⟩ (fun w h Y => PySem.W.kIn_of Y) ?F (fun _ _ a ns hl _ hS => ⟨a, ns, rfl, hl, hS, fun _ => rfl⟩) (fun _ _ _ _ _ h => Vf.nox_end h)
  case F =>
    intro w mg fa h KX G hmg
    have d_product_of := Vf.mkDef KX (f := Str.ofString "product_of") (st := P50.top 7) (by k_is) (by k_is) (by k_is) (by k_is)
    have d_count_parcels := Vf.mkDef KX (f := Str.ofString "count_parcels") (st := P50.top 8) (by k_is) (by k_is) (by k_is) (by k_is)
    have d_all_parcels := Vf.mkDef KX (f := Str.ofString "all_parcels") (st := P50.top 9) (by k_is) (by k_is) (by k_is) (by k_is)
    have d_number_of_parcel := Vf.mkDef KX (f := Str.ofString "number_of_parcel") (st := P50.top 10) (by k_is) (by k_is) (by k_is) (by k_is)
    have d_with_worth := Vf.mkDef KX (f := Str.ofString "with_worth") (st := P50.top 11) (by k_is) (by k_is) (by k_is) (by k_is)
    have d_is_whole := Vf.mkDef KX (f := Str.ofString "is_whole") (st := P50.top 13) (by k_is) (by k_is) (by k_is) (by k_is)
    have d_are_wholes := Vf.mkDef KX (f := Str.ofString "are_wholes") (st := P50.top 14) (by k_is) (by k_is) (by k_is) (by k_is)
    have d_are_between := Vf.mkDef KX (f := Str.ofString "are_between") (st := P50.top 15) (by k_is) (by k_is) (by k_is) (by k_is)
    have d_is_rising := Vf.mkDef KX (f := Str.ofString "is_rising") (st := P50.top 16) (by k_is) (by k_is) (by k_is) (by k_is)
    have d_parts_ahead := Vf.mkDef KX (f := Str.ofString "parts_ahead") (st := P50.top 28) (by k_is) (by k_is) (by k_is) (by k_is)
    have d_has_halt := Vf.mkDef KX (f := Str.ofString "has_halt") (st := P50.top 29) (by k_is) (by k_is) (by k_is) (by k_is)
    have d_count_halts := Vf.mkDef KX (f := Str.ofString "count_halts") (st := P50.top 30) (by k_is) (by k_is) (by k_is) (by k_is)
    have d_pass_table := Vf.mkDef KX (f := Str.ofString "pass_table") (st := P50.top 32) (by k_is) (by k_is) (by k_is) (by k_is)
    have d_drop_table := Vf.mkDef KX (f := Str.ofString "drop_table") (st := P50.top 33) (by k_is) (by k_is) (by k_is) (by k_is)
    have d_copied_table := Vf.mkDef KX (f := Str.ofString "copied_table") (st := P50.top 34) (by k_is) (by k_is) (by k_is) (by k_is)
    have d_joined := Vf.mkDef KX (f := Str.ofString "joined") (st := P50.top 35) (by k_is) (by k_is) (by k_is) (by k_is)
    have d_outs_of_numbers := Vf.mkDef KX (f := Str.ofString "outs_of_numbers") (st := P50.top 36) (by k_is) (by k_is) (by k_is) (by k_is)
    have d_table_or := Vf.mkDef KX (f := Str.ofString "table_or") (st := P50.top 37) (by k_is) (by k_is) (by k_is) (by k_is)
    have d_table_then := Vf.mkDef KX (f := Str.ofString "table_then") (st := P50.top 38) (by k_is) (by k_is) (by k_is) (by k_is)
    have d_all_behind := Vf.mkDef KX (f := Str.ofString "all_behind") (st := P50.top 39) (by k_is) (by k_is) (by k_is) (by k_is)
    have d_table_again := Vf.mkDef KX (f := Str.ofString "table_again") (st := P50.top 40) (by k_is) (by k_is) (by k_is) (by k_is)
    have d_table_not := Vf.mkDef KX (f := Str.ofString "table_not") (st := P50.top 41) (by k_is) (by k_is) (by k_is) (by k_is)
    have d_test_table := Vf.mkDef KX (f := Str.ofString "test_table") (st := P50.top 42) (by k_is) (by k_is) (by k_is) (by k_is)
    have d_put_table := Vf.mkDef KX (f := Str.ofString "put_table") (st := P50.top 43) (by k_is) (by k_is) (by k_is) (by k_is)
    have d_table_of_sign := Vf.mkDef KX (f := Str.ofString "table_of_sign") (st := P50.top 44) (by k_is) (by k_is) (by k_is) (by k_is)
    have d_told_table := Vf.mkDef KX (f := Str.ofString "told_table") (st := P50.top 45) (by k_is) (by k_is) (by k_is) (by k_is)
    have d_is_outs := Vf.mkDef KX (f := Str.ofString "is_outs") (st := P50.top 46) (by k_is) (by k_is) (by k_is) (by k_is)
    have d_is_table := Vf.mkDef KX (f := Str.ofString "is_table") (st := P50.top 47) (by k_is) (by k_is) (by k_is) (by k_is)
    have d_count_states := Vf.mkDef KX (f := Str.ofString "count_states") (st := P50.top 50) (by k_is) (by k_is) (by k_is) (by k_is)
    have d_copied_tables := Vf.mkDef KX (f := Str.ofString "copied_tables") (st := P50.top 51) (by k_is) (by k_is) (by k_is) (by k_is)
    have d_drops := Vf.mkDef KX (f := Str.ofString "drops") (st := P50.top 52) (by k_is) (by k_is) (by k_is) (by k_is)
    have d_machine_of_table := Vf.mkDef KX (f := Str.ofString "machine_of_table") (st := P50.top 53) (by k_is) (by k_is) (by k_is) (by k_is)
    have d_halt_machine := Vf.mkDef KX (f := Str.ofString "halt_machine") (st := P50.top 54) (by k_is) (by k_is) (by k_is) (by k_is)
    have d_rows_behind := Vf.mkDef KX (f := Str.ofString "rows_behind") (st := P50.top 55) (by k_is) (by k_is) (by k_is) (by k_is)
    have d_machine_or := Vf.mkDef KX (f := Str.ofString "machine_or") (st := P50.top 56) (by k_is) (by k_is) (by k_is) (by k_is)
    have d_machine_then := Vf.mkDef KX (f := Str.ofString "machine_then") (st := P50.top 57) (by k_is) (by k_is) (by k_is) (by k_is)
    have d_machine_again := Vf.mkDef KX (f := Str.ofString "machine_again") (st := P50.top 58) (by k_is) (by k_is) (by k_is) (by k_is)
    have d_told_machine := Vf.mkDef KX (f := Str.ofString "told_machine") (st := P50.top 59) (by k_is) (by k_is) (by k_is) (by k_is)
    have d_machine_of := Vf.mkDef KX (f := Str.ofString "machine_of") (st := P50.top 60) (by k_is) (by k_is) (by k_is) (by k_is)
    have d_do_fit := Vf.mkDef KX (f := Str.ofString "do_fit") (st := P50.top 61) (by k_is) (by k_is) (by k_is) (by k_is)
    have d_check_machine := Vf.mkDef KX (f := Str.ofString "check_machine") (st := P50.top 62) (by k_is) (by k_is) (by k_is) (by k_is)
    have d__law_feed := Vf.mkDef KX (f := Str.ofString "_law_feed") (st := P50.top 64) (by k_is) (by k_is) (by k_is) (by k_is)
    have d__law_draw := Vf.mkDef KX (f := Str.ofString "_law_draw") (st := P50.top 65) (by k_is) (by k_is) (by k_is) (by k_is)
    have d__law_name := Vf.mkDef KX (f := Str.ofString "_law_name") (st := P50.top 66) (by k_is) (by k_is) (by k_is) (by k_is)
    have d__law_fields := Vf.mkDef KX (f := Str.ofString "_law_fields") (st := P50.top 67) (by k_is) (by k_is) (by k_is) (by k_is)
    have d__law_pair := Vf.mkDef KX (f := Str.ofString "_law_pair") (st := P50.top 68) (by k_is) (by k_is) (by k_is) (by k_is)
    have d__law_test := Vf.mkDef KX (f := Str.ofString "_law_test") (st := P50.top 69) (by k_is) (by k_is) (by k_is) (by k_is)
    have d__law_policy := Vf.mkDef KX (f := Str.ofString "_law_policy") (st := P50.top 70) (by k_is) (by k_is) (by k_is) (by k_is)
    have d__law_same := Vf.mkDef KX (f := Str.ofString "_law_same") (st := P50.top 71) (by k_is) (by k_is) (by k_is) (by k_is)
    have d__law_anew := Vf.mkDef KX (f := Str.ofString "_law_anew") (st := P50.top 72) (by k_is) (by k_is) (by k_is) (by k_is)
    have d__law_many := Vf.mkDef KX (f := Str.ofString "_law_many") (st := P50.top 73) (by k_is) (by k_is) (by k_is) (by k_is)
    have d__law_some_table := Vf.mkDef KX (f := Str.ofString "_law_some_table") (st := P50.top 74) (by k_is) (by k_is) (by k_is) (by k_is)
    have d__law_drop := Vf.mkDef KX (f := Str.ofString "_law_drop") (st := P50.top 75) (by k_is) (by k_is) (by k_is) (by k_is)
    have d__law_some_machine := Vf.mkDef KX (f := Str.ofString "_law_some_machine") (st := P50.top 76) (by k_is) (by k_is) (by k_is) (by k_is)
    have d__law_is_table := Vf.mkDef KX (f := Str.ofString "_law_is_table") (st := P50.top 77) (by k_is) (by k_is) (by k_is) (by k_is)
    have d__law_fault := Vf.mkDef KX (f := Str.ofString "_law_fault") (st := P50.top 78) (by k_is) (by k_is) (by k_is) (by k_is)
    have d__law_told := Vf.mkDef KX (f := Str.ofString "_law_told") (st := P50.top 79) (by k_is) (by k_is) (by k_is) (by k_is)
    have d__law_no_table := Vf.mkDef KX (f := Str.ofString "_law_no_table") (st := P50.top 80) (by k_is) (by k_is) (by k_is) (by k_is)
    have d__law_bent := Vf.mkDef KX (f := Str.ofString "_law_bent") (st := P50.top 81) (by k_is) (by k_is) (by k_is) (by k_is)
    have d__law_right := Vf.mkDef KX (f := Str.ofString "_law_right") (st := P50.top 82) (by k_is) (by k_is) (by k_is) (by k_is)
    have d__law_bent_again := Vf.mkDef KX (f := Str.ofString "_law_bent_again") (st := P50.top 83) (by k_is) (by k_is) (by k_is) (by k_is)
    have d_law := Vf.mkDef KX (f := Str.ofString "law") (st := P50.top 84) (by k_is) (by k_is) (by k_is) (by k_is)
    have m_BadMachine := PySem.W.mg_of (n := Str.ofString "BadMachine") KX G (by k_is)
    have m_BadPlain := PySem.W.mg_of (n := Str.ofString "BadPlain") KX G (by k_is)
    have m_BadTable := PySem.W.mg_of (n := Str.ofString "BadTable") KX G (by k_is)
    have m_WayError := PySem.W.mg_of (n := Str.ofString "WayError") KX G (by k_is)
    have hblt : ∀ x ∈ Vf.bltN, mg x = none := by
      unfold Vf.bltN
      exact (List.forall_mem_cons.mpr ⟨(PySem.W.mg_none_of KX G (by k_is)), (List.forall_mem_cons.mpr ⟨(PySem.W.mg_none_of KX G (by k_is)), (List.forall_mem_cons.mpr ⟨(PySem.W.mg_none_of KX G (by k_is)), (List.forall_mem_cons.mpr ⟨(PySem.W.mg_none_of KX G (by k_is)), (List.forall_mem_cons.mpr ⟨(PySem.W.mg_none_of KX G (by k_is)), (List.forall_mem_cons.mpr ⟨(PySem.W.mg_none_of KX G (by k_is)), (List.forall_mem_cons.mpr ⟨(PySem.W.mg_none_of KX G (by k_is)), (List.forall_mem_cons.mpr ⟨(PySem.W.mg_none_of KX G (by k_is)), (List.forall_mem_cons.mpr ⟨(PySem.W.mg_none_of KX G (by k_is)), (List.forall_mem_cons.mpr ⟨(PySem.W.mg_none_of KX G (by k_is)), (List.forall_mem_cons.mpr ⟨(PySem.W.mg_none_of KX G (by k_is)), (List.forall_mem_cons.mpr ⟨(PySem.W.mg_none_of KX G (by k_is)), (List.forall_mem_cons.mpr ⟨(PySem.W.mg_none_of KX G (by k_is)), (List.forall_mem_cons.mpr ⟨(PySem.W.mg_none_of KX G (by k_is)), (List.forall_mem_cons.mpr ⟨(PySem.W.mg_none_of KX G (by k_is)), (List.forall_mem_cons.mpr ⟨(PySem.W.mg_none_of KX G (by k_is)), (List.forall_mem_cons.mpr ⟨(PySem.W.mg_none_of KX G (by k_is)), (fun _ z => by cases z)⟩)⟩)⟩)⟩)⟩)⟩)⟩)⟩)⟩)⟩)⟩)⟩)⟩)⟩)⟩)⟩)⟩)
    have hgl := Vf.glAll (gl := P50.gls) (w := w) (mg := mg) KX (by
      unfold P50.gls
      exact (List.forall_mem_cons.mpr ⟨(Vf.glStr (PySem.W.mg_of KX G (by k_is))), (List.forall_mem_cons.mpr ⟨(Vf.glStr (PySem.W.mg_of KX G (by k_is))), (List.forall_mem_cons.mpr ⟨(Vf.glStr (PySem.W.mg_of KX G (by k_is))), (List.forall_mem_cons.mpr ⟨(Vf.glStr (PySem.W.mg_of KX G (by k_is))), (List.forall_mem_cons.mpr ⟨(Vf.glStr (PySem.W.mg_of KX G (by k_is))), (List.forall_mem_cons.mpr ⟨(Vf.glStr (PySem.W.mg_of KX G (by k_is))), (List.forall_mem_cons.mpr ⟨(Vf.glStr (PySem.W.mg_of KX G (by k_is))), (List.forall_mem_cons.mpr ⟨(Vf.glStr (PySem.W.mg_of KX G (by k_is))), (List.forall_mem_cons.mpr ⟨(Vf.glStr (PySem.W.mg_of KX G (by k_is))), (List.forall_mem_cons.mpr ⟨(Vf.glDict (vs := [.int 0, .int 0, .int 0, .int 0, .int 0, .int 2, .int 2, .int 1, .int 1]) (PySem.W.mg_of KX G (by k_is)) (by k_is) (by decide) (by (repeat refine Vf.Ents.cons rfl rfl ⟨_, rfl⟩ ?_); exact Vf.Ents.nil) rfl (fun _ => Vf.ints_rep [0, 0, 0, 0, 0, 2, 2, 1, 1])), (List.forall_mem_cons.mpr ⟨(Vf.glInt (PySem.W.mg_of KX G (by k_is))), (fun _ z => by cases z)⟩)⟩)⟩)⟩)⟩)⟩)⟩)⟩)⟩)⟩)⟩))
    have ec := Vf.mkExcC (mg := mg) KX m_BadMachine (by k_is) (by k_is) (by k_is) (by k_is) (by k_is) (by k_is) (by k_is) (by k_is)
    have hs := Vf.subAll (subs := P50.subs) (mg := mg) KX (by
      unfold P50.subs
      exact (List.forall_mem_cons.mpr ⟨(List.forall_mem_cons.mpr ⟨(Vf.mkSub KX m_BadMachine m_BadMachine ec (by k_is) (by k_is) (by k_is) (by k_is) (by decide)), (List.forall_mem_cons.mpr ⟨(Vf.mkSub KX m_BadMachine m_BadPlain ec (by k_is) (by k_is) (by k_is) (by k_is) (by decide)), (List.forall_mem_cons.mpr ⟨(Vf.mkSub KX m_BadMachine m_BadTable ec (by k_is) (by k_is) (by k_is) (by k_is) (by decide)), (List.forall_mem_cons.mpr ⟨(Vf.mkSub KX m_BadMachine m_WayError ec (by k_is) (by k_is) (by k_is) (by k_is) (by decide)), (fun _ z => by cases z)⟩)⟩)⟩)⟩), (fun _ z => by cases z)⟩))
    have xf := Vf.mkXfC (mg := mg) KX m_BadMachine (by k_is) (by k_is) (by k_is) (by k_is)
    have no := Vf.mkNo2 (mg := mg) (f := Str.ofString "i") (g := Str.ofString "j") KX m_BadMachine (by k_is) (by k_is)
    have ox := Vf.mkOex (mg := mg) KX m_BadMachine (by k_is) (by decide) (by k_is) (by k_is) (by k_is) (by k_is)
    have ini := Vf.mkIni (st := P50.iniS) (N := [Str.ofString "self", Str.ofString "i", Str.ofString "j"]) (qual := Str.ofString "BadMachine.__init__") (Vf.mkInit (mg := mg) KX m_BadMachine (by k_is)) (by k_is) (by k_is) (by k_is) (by k_is) (fun _ _ _ _ _ _ us hl => match us, hl with | [_, _, _], _ => rfl)
    have hf := Vf.fldAll (L := P50.cls) (mg := mg) KX (by
      unfold P50.cls
      exact (List.forall_mem_cons.mpr ⟨⟨_, m_BadMachine, xf, no⟩, (fun _ z => by cases z)⟩))
    have hrs := Vf.rsAll (L := P50.cls) (mg := mg) KX (by
      unfold P50.cls
      exact (List.forall_mem_cons.mpr ⟨⟨by decide, _, m_BadMachine, Vf.OwnExc.ab ⟨ox, m_BadMachine, no, ini⟩ P50.iniOk (by decide) (by decide)⟩, (fun _ z => by cases z)⟩))
    have R := Vf.rows_of (P := PySem.Challenge.pw_parcelways_k50_whole_machines_checked) (tab := P50.tab) KX G P50.tabEq P50.okAll P50.sigEq (P50.defAll d_product_of d_count_parcels d_all_parcels d_number_of_parcel d_with_worth d_is_whole d_are_wholes d_are_between d_is_rising d_parts_ahead d_has_halt d_count_halts d_pass_table d_drop_table d_copied_table d_joined d_outs_of_numbers d_table_or d_table_then d_all_behind d_table_again d_table_not d_test_table d_put_table d_table_of_sign d_told_table d_is_outs d_is_table d_count_states d_copied_tables d_drops d_machine_of_table d_halt_machine d_rows_behind d_machine_or d_machine_then d_machine_again d_told_machine d_machine_of d_do_fit d_check_machine d__law_feed d__law_draw d__law_name d__law_fields d__law_pair d__law_test d__law_policy d__law_same d__law_anew d__law_many d__law_some_table d__law_drop d__law_some_machine d__law_is_table d__law_fault d__law_told d__law_no_table d__law_bent d__law_right d__law_bent_again d_law) hblt hgl hrs hs hf
    exact Vf.law_end (k := 227) R hmg rfl P50.b_law rfl rfl rfl Vf.Q.hrun
