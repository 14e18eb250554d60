import PyProof.Rows.All
import Wide.All
import OpenK.AllK
import Wide.FinOn
import PySem.Challenge.RW_fewways_k42_webs_of_plans
import HandS.ForMost
import HandS.ForExc
import HandS.IsInst
import HandS.TupAny
import HandS.TupLe
import KE.SortData
import KE.DataCmp
import KE.DataMinMax
import HandS.Comp
import HandS.Codes
import HandS.WordsExc
import HandS.Style
import HandS.TupMul
import PyProof.P3In
import HandS.TupSets
import HandS.SetFor
import HandS.Strs
import HandS.Conv
import HandS.Zip
import HandS.Rev
import KE.GoesEnum
import HandS.Lambda
import HandS.EndTab
import HandS.HotCalls
import HandS.ExcIs
import KE.KNestM
set_option Elab.async false
set_option linter.all false
set_option maxRecDepth 100000
/-! an evaluator for the part of Python that the text uses: data trees, no heap -/
namespace L3
open PySem

abbrev D := PyData

inductive R (α : Type) where
  | ok (a : α) | exc (n : String) | stuck
def R.bind {α β : Type} (r : R α) (f : α → R β) : R β :=
  match r with
  | .ok a => f a
  | .exc n => .exc n
  | .stuck => .stuck
instance : Monad R where
  pure := R.ok
  bind := R.bind
/-- within a comprehension nothing may be raised -/
def R.nox {α : Type} : R α → R α
  | .exc _ => .stuck
  | r => r

abbrev lim : Nat := 16777216

inductive U1 where
  | len | tupleOf | listOf | sorted | sum | minL | maxL | all | any | neg | intOf | strOf | rev | ix | sset | lset | revT
  deriving DecidableEq
inductive B2 where
  | add | sub | mul | fdiv | mod | pow | shl | shr | band | bor | bxor | eq | ne | lt | le | gt | ge | inn | nin | rep | idx | is_ | isnt | min2 | max2
  deriving DecidableEq
inductive Ty where
  | int | bool | str | tuple | list | dict
  deriving DecidableEq

def isiD : D → Ty → Bool
  | .int _, .int => true
  | .bool _, .int => true
  | .bool _, .bool => true
  | .str _, .str => true
  | .tuple _, .tuple => true
  | .list _, .list => true
  | .dict _, .dict => true
  | _, _ => false

def atom : D → Bool
  | .none => true | .bool _ => true | .int _ => true | .str _ => true
  | _ => false
def boolsOf : List D → Option (List Bool)
  | [] => some []
  | .bool b :: r => (boolsOf r).map (b :: ·)
  | _ => none
def intsOf : List D → Option (List Int)
  | [] => some []
  | .int b :: r => (intsOf r).map (b :: ·)
  | _ => none
def itemsOf : D → Option (List D)
  | .list xs => some xs
  | .tuple xs => some xs
  | _ => none
/-- sorted's own condition -/
def sortOk (xs : List D) : Bool :=
  (xs.all fun d => xs.all fun e => W.alike d e) && (xs.all fun d => SeqAt.shaped d) &&
    ((xs.all fun d => match d with | .tuple (_ :: _) => true | _ => false) || (xs.all fun d => match d with | .none => false | .tuple _ => false | _ => true))
def sortD (xs : List D) : List D := xs.mergeSort (W.dataLe false id)

/-- a pair of small numbers -/
def pairOf : D → Option (Int × Int)
  | .tuple [.int x, .int y] => if 0 ≤ x ∧ x < 64 ∧ 0 ≤ y ∧ y < 64 then some (x, y) else none
  | _ => none
def pairsOf : List D → Option (List (Int × Int))
  | [] => some []
  | d :: r => match pairOf d, pairsOf r with
    | some p, some ps => some (p :: ps)
    | _, _ => none
def codeP (p : Int × Int) : Int := p.1 * 64 + p.2
def insP (p : Int × Int) : List (Int × Int) → List (Int × Int)
  | [] => [p]
  | q :: r => if codeP p < codeP q then p :: q :: r else if codeP p = codeP q then q :: r else q :: insP p r
def ssP (ps : List (Int × Int)) : List (Int × Int) := ps.foldr insP []
def prD (p : Int × Int) : D := .tuple [.int p.1, .int p.2]
/-- the whole numbers of a set, rising -/
def insI (n : Int) : List Int → List Int
  | [] => [n]
  | m :: r => if n < m then n :: m :: r else if n = m then m :: r else m :: insI n r
def ssI (ns : List Int) : List Int := ns.foldr insI []
def ssetR (xs : List D) : R D :=
  match pairsOf xs with
  | some ps => if ps.length < 64 then .ok (.list ((ssP ps).map prD)) else .stuck
  | none => match intsOf xs with
    | some ns => if ns.length < 64 then .ok (.list ((ssI ns).map .int)) else .stuck
    | none => .stuck
def op1 : U1 → D → R D
  | .maxL, .list xs => match intsOf xs with | some (n :: ns) => .ok (.int (ns.foldl max n)) | _ => .stuck
  | .maxL, .tuple xs => match intsOf xs with | some (n :: ns) => .ok (.int (ns.foldl max n)) | _ => .stuck
  | .minL, .list xs => match intsOf xs with | some (n :: ns) => .ok (.int (ns.foldl min n)) | _ => .stuck
  | .minL, .tuple xs => match intsOf xs with | some (n :: ns) => .ok (.int (ns.foldl min n)) | _ => .stuck
  | .sset, .list xs => ssetR xs
  | .lset, .list xs => match intsOf xs with | some ns => if ns.length ≤ 1000 then .ok (.int (ssI ns).length) else .stuck | none => .stuck
  | .lset, .tuple xs => match intsOf xs with | some ns => if ns.length ≤ 1000 then .ok (.int (ssI ns).length) else .stuck | none => .stuck
  | .len, .str x => if x.length ≤ lim then .ok (.int x.length) else .stuck
  | .len, .list xs => .ok (.int xs.length)
  | .len, .tuple xs => .ok (.int xs.length)
  | .tupleOf, .list xs => .ok (.tuple xs)
  | .tupleOf, .tuple xs => .ok (.tuple xs)
  | .listOf, .list xs => .ok (.list xs)
  | .listOf, .tuple xs => .ok (.list xs)
  | .sorted, .list xs => if sortOk xs then .ok (.list (sortD xs)) else .stuck
  | .all, .list xs => match boolsOf xs with | some bs => .ok (.bool (bs.all id)) | none => .stuck
  | .any, .list xs => match boolsOf xs with | some bs => .ok (.bool (bs.any id)) | none => .stuck
  | .sum, .list xs => match intsOf xs with | some bs => .ok (.int bs.sum) | none => .stuck
  | .neg, .int i => .ok (.int (-i))
  | .ix, .int i => .ok (.int i)
  | .rev, .list xs => .ok (.list xs.reverse)
  | .rev, .tuple xs => .ok (.tuple xs.reverse)
  | .revT, .tuple xs => .ok (.tuple (xs.drop 1).reverse)
  | .intOf, .int i => .ok (.int i)
  | .intOf, .bool b => .ok (.int (if b then 1 else 0))
  | .strOf, .int i => if i.natAbs < 2 ^ 64 then .ok (.str (toString i)) else .stuck
  | _, _ => .stuck

/-- the comparisons on data -/
def shp (d : D) : Bool := SeqAt.shaped d
def eqD : D → D → R D
  | .int a, .int b => .ok (.bool (a == b))
  | .bool a, .bool b => .ok (.bool (a == b))
  | .str a, .str b => .ok (.bool (a == b))
  | x, y => if shp x && shp y then .ok (.bool (PyData.eqv x y)) else .stuck
def notR : R D → R D
  | .ok (.bool b) => .ok (.bool (!b))
  | .ok _ => .stuck
  | r => r
def ordOk (x y : D) : Bool := W.alike x y && (match x with | .none => false | _ => true) && shp x && shp y
def ltD : D → D → R D
  | .int a, .int b => .ok (.bool (decide (a < b)))
  | x, y => if ordOk x y then .ok (.bool (W.dataLt x y)) else .stuck
def leD : D → D → R D
  | .int a, .int b => .ok (.bool (decide (a ≤ b)))
  | x, y => if ordOk x y then .ok (.bool (!W.dataLt y x)) else .stuck
def gtD : D → D → R D
  | .int a, .int b => .ok (.bool (decide (b < a)))
  | x, y => if ordOk x y then .ok (.bool (W.dataLt y x)) else .stuck
def geD : D → D → R D
  | .int a, .int b => .ok (.bool (decide (b ≤ a)))
  | x, y => if ordOk x y then .ok (.bool (!W.dataLt x y)) else .stuck
def isD : D → D → R D
  | .none, .none => .ok (.bool true)
  | .none, _ => .stuck
  | _, .none => .ok (.bool false)
  | .bool a, .bool b => .ok (.bool (decide (a = b)))
  | _, _ => .stuck

/-- the lesser of two -/
def minOk (x y : D) : Bool := ordOk x y && ordOk y x && ordOk x x && ordOk y y
def inD (x y : D) : R D :=
  match itemsOf y with
  | some ds => if shp x && shp y then .ok (.bool (ds.any fun z => PyData.eqv z x)) else .stuck
  | none => .stuck
def op2 : B2 → D → D → R D
  | .add, .int a, .int b => .ok (.int (a + b))
  | .add, .str a, .str b => if a.length + b.length ≤ lim then .ok (.str (a ++ b)) else .stuck
  | .add, .tuple a, .tuple b => if a.length + b.length ≤ lim then .ok (.tuple (a ++ b)) else .stuck
  | .add, .list a, .list b => if a.length + b.length ≤ lim then .ok (.list (a ++ b)) else .stuck
  | .sub, .int a, .int b => .ok (.int (a - b))
  | .mul, .int a, .int b => if (-(2 ^ 64) < a ∧ a < 2 ^ 64) ∨ (-(2 ^ 64) < b ∧ b < 2 ^ 64) then .ok (.int (a * b)) else .stuck
  | .fdiv, .int a, .int b => if 0 < b ∧ b < 1073741824 then .ok (.int (a / b)) else .stuck
  | .mod, .int a, .int b => if 0 < b then .ok (.int (a % b)) else .stuck
  | .pow, .int a, .int b => if 0 ≤ b ∧ b ≤ 1000000 ∧ a.natAbs < 2 ^ 64 then .ok (.int (a ^ b.toNat)) else .stuck
  | .shl, .int a, .int b => if 0 ≤ b ∧ b ≤ 1000000 ∧ a.natAbs < 2 ^ 64 then .ok (.int (a * 2 ^ b.toNat)) else .stuck
  | .shr, .int a, .int b => if 0 ≤ b then .ok (.int (a / 2 ^ b.toNat)) else .stuck
  | .band, .int a, .int b => .ok (.int (Builtin.bitAnd a b))
  | .bor, .int a, .int b => .ok (.int (Builtin.bitOr a b))
  | .bxor, .int a, .int b => .ok (.int (Builtin.bitXor a b))
  | .inn, x, y => inD x y
  | .nin, x, y => notR (inD x y)
  | .rep, .list xs, .int k => if -(2 ^ 63) ≤ k ∧ k < 2 ^ 63 ∧ xs.length * k.toNat ≤ lim then .ok (.list (List.replicate k.toNat xs).flatten) else .stuck
  | .rep, .tuple xs, .int k => if xs ≠ [] ∧ 2 ≤ k ∧ k ≤ 1000 ∧ xs.length ≤ 1000 then .ok (.tuple (List.replicate k.toNat xs).flatten) else .stuck
  | .eq, x, y => eqD x y
  | .ne, x, y => notR (eqD x y)
  | .lt, x, y => ltD x y
  | .le, x, y => leD x y
  | .gt, x, y => gtD x y
  | .ge, x, y => geD x y
  | .idx, .list xs, .int i => match L2.atI xs i with | some d => .ok d | none => .stuck
  | .idx, .tuple xs, .int i => match L2.atI xs i with | some d => .ok d | none => .stuck
  | .is_, x, y => isD x y
  | .isnt, x, y => notR (isD x y)
  | .min2, .int a, .int b => .ok (.int (if b < a then b else a))
  | .min2, .tuple a, .tuple b => if minOk (.tuple a) (.tuple b) then .ok (if W.dataLt (.tuple b) (.tuple a) then .tuple b else .tuple a) else .stuck
  | .max2, .int a, .int b => .ok (.int (if b > a then b else a))
  | _, _, _ => .stuck

/-- a slice's part -/
def partD : D → Option (Option Int)
  | .none => some none
  | .int i => some (some i)
  | _ => none
def cutD (xs : List D) (lo hi : Option Int) : List D := (xs.drop (HT.sIx xs.length 0 lo)).take (HT.sIx xs.length xs.length hi - HT.sIx xs.length 0 lo)
def partR (d : D) : R (Option Int) :=
  match partD d with
  | some o => .ok o
  | none => .stuck
def sliceD (x : D) (lo hi : Option Int) : R D :=
  match x with
  | .list xs => .ok (.list (cutD xs lo hi))
  | .tuple xs => .ok (.tuple (cutD xs lo hi))
  | _ => .stuck

inductive Tg where
  | one (i : Nat) | tup (is : List Nat) | pr (i : Nat) (is : List Nat)
  deriving DecidableEq

mutual
inductive CE where
  | cn (d : D) | var (i : Nat) | tup (es : CL) | lst (es : CL) | dct0
  | u (o : U1) (a : CE) | b (o : B2) (a c : CE)
  | and (a c : CE) | or (a c : CE) | not (a : CE) | chain (o o' : B2) (a b c : CE) | ite (c a b : CE)
  | sl (a lo hi : CE) | isi (a : CE) (t : Ty) | call (f : String) (es : CL)
  | lc (own : List Nat) (tg : Tg) (it : CI) (cond elt : CE)
  | rg (t : Bool) (it : CI)
inductive CL where
  | nil | cons (e : CE) (es : CL)
inductive CI where
  | seq (e : CE) | rng1 (e : CE) | rng2 (a b : CE) | enum (e : CE) | zip (a b : CE) | rev (e : CE)
end

inductive Fl where
  | fro | own | lock
  deriving DecidableEq
abbrev Env := List (Option (D × Fl))

structure FT where
  f : String → List D → R D
  fr : String → Bool

def setS (env : Env) (i : Nat) (v : Option (D × Fl)) : Env := env.set i v
def bindTs : List Nat → List D → Env → Option Env
  | [], [], env => some env
  | i :: is, d :: ds, env => if i < env.length then bindTs is ds (env.set i (some (d, .fro))) else none
  | _, _, _ => none
def bindT : Tg → D → Env → R Env
  | .one i, d, env => if i < env.length then .ok (env.set i (some (d, .fro))) else .stuck
  | .tup is, .tuple ds, env => match bindTs is ds env with | some e => .ok e | none => .stuck
  | .pr i is, .tuple [d, .tuple ds], env => if i < env.length then (match bindTs is ds (env.set i (some (d, .fro))) with | some e => .ok e | none => .stuck) else .stuck
  | _, _, _ => .stuck
def wipeE (env : Env) : List Nat → Env
  | [] => env
  | v :: vs => (wipeE env vs).set v none
def freeze1 (i : Nat) (env : Env) : Env :=
  match env[i]? with
  | some (some (d, _)) => env.set i (some (d, .fro))
  | _ => env
def freeze : List Nat → Env → Env
  | [], env => env
  | i :: is, env => freeze is (freeze1 i env)
def lcLoop (f : D → R (Option D)) : List D → R (List D)
  | [] => .ok []
  | d :: ds => (f d).bind fun x => (lcLoop f ds).bind fun r => .ok (match x with | some y => y :: r | none => r)


mutual
def lk0 : CE → List Nat
  | .cn _ => [] | .var i => [i] | .tup es => lks es | .lst es => lks es | .dct0 => []
  | .u _ a => lk1 a | .b .idx a _ => lk1 a | .b .add a c => lk1 a ++ lk1 c | .b .rep a c => lk1 a ++ lk1 c | .b .min2 a c => lk1 a ++ lk1 c | .b _ _ _ => []
  | .and _ c => lk0 c | .or _ c => lk0 c | .not _ => [] | .chain .. => [] | .ite _ a b => lk0 a ++ lk0 b
  | .sl a _ _ => lk1 a | .isi _ _ => [] | .call _ es => lks es
  | .lc _ _ it _ e => lkI it ++ lk0 e
  | .rg _ _ => []
def lk1 : CE → List Nat
  | .cn _ => [] | .var _ => [] | .tup es => lks es | .lst es => lks es | .dct0 => []
  | .u _ a => lk1 a | .b .idx a _ => lk1 a | .b .add a c => lk1 a ++ lk1 c | .b .rep a c => lk1 a ++ lk1 c | .b .min2 a c => lk1 a ++ lk1 c | .b _ _ _ => []
  | .and _ c => lk1 c | .or _ c => lk1 c | .not _ => [] | .chain .. => [] | .ite _ a b => lk1 a ++ lk1 b
  | .sl a _ _ => lk1 a | .isi _ _ => [] | .call _ es => lks es
  | .lc _ _ it _ e => lkI it ++ lk0 e
  | .rg _ _ => []
def lks : CL → List Nat
  | .nil => []
  | .cons e es => lk0 e ++ lks es
def lkI : CI → List Nat
  | .seq e => lk1 e
  | .enum e => lk1 e
  | .rev e => lk1 e
  | .zip a b => lk1 a ++ lk1 b
  | _ => []
end
/-- the outside of what is walked -/
def lkI0 : CI → List Nat
  | .seq e => lk0 e
  | .enum e => lk0 e
  | .rev e => lk0 e
  | .zip a b => lk0 a ++ lk0 b
  | _ => []

def enumR (x : D) : R (List D) := match itemsOf x with | some ds => .ok (ds.mapIdx fun i d => .tuple [.int (i : Nat), d]) | none => .stuck
def revR (x : D) : R (List D) := match itemsOf x with | some ds => .ok ds.reverse | none => .stuck
def zipR : D → D → R (List D)
  | .list xs, .list ys => if xs.length ≤ lim then .ok (List.zipWith (fun x y => .tuple [x, y]) xs ys) else .stuck
  | .tuple xs, .tuple ys => if xs.length ≤ lim then .ok (List.zipWith (fun x y => .tuple [x, y]) xs ys) else .stuck
  | _, _ => .stuck
def isOrd : B2 → Bool
  | .lt => true | .le => true | .gt => true | .ge => true | .eq => true | .ne => true
  | _ => false
mutual
def ev (T : FT) : CE → Env → R D
  | .cn d, _ => .ok d
  | .var i, env => match env[i]? with | some (some (d, _)) => .ok d | _ => .stuck
  | .tup es, env => (evs T es env).bind fun ds => if ds.length ≤ lim then .ok (.tuple ds) else .stuck
  | .lst es, env => (evs T es env).bind fun ds => if ds.length ≤ lim then .ok (.list ds) else .stuck
  | .dct0, _ => .ok (.dict [])
  | .u o a, env => (ev T a env).bind fun x => op1 o x
  | .b o a c, env => (ev T a env).bind fun x => (ev T c env).bind fun y => op2 o x y
  | .and a c, env => (ev T a env).bind fun x => match x with | .bool true => ev T c env | .bool false => .ok (.bool false) | _ => .stuck
  | .or a c, env => (ev T a env).bind fun x => match x with | .bool true => .ok (.bool true) | .bool false => ev T c env | _ => .stuck
  | .not a, env => (ev T a env).bind fun x => match x with | .bool b => .ok (.bool (!b)) | _ => .stuck
  | .chain o o' a b c, env => (ev T a env).bind fun x => (ev T b env).bind fun y => (op2 o x y).bind fun z => match z with
    | .bool true => (ev T c env).bind fun w => op2 o' y w
    | .bool false => .ok (.bool false)
    | _ => .stuck
  | .ite c a b, env => (ev T c env).bind fun x => match x with | .bool true => ev T a env | .bool false => ev T b env | _ => .stuck
  | .sl a lo hi, env => (ev T a env).bind fun x => (ev T lo env).bind fun l => (partR l).bind fun l' => (ev T hi env).bind fun h => (partR h).bind fun h' => sliceD x l' h'
  | .isi a t, env => (ev T a env).bind fun x => .ok (.bool (isiD x t))
  | .call f es, env => (evs T es env).bind fun ds => T.f f ds
  | .lc own tg it cond elt, env => (its T it env).bind fun ds =>
      (lcLoop (fun d => (bindT tg d (wipeE (freeze (lkI it) env) own)).bind fun e => (ev T cond e).nox.bind fun c => match c with
        | .bool true => (ev T elt e).nox.bind fun y => .ok (some y)
        | .bool false => .ok none
        | _ => .stuck) ds).bind fun r => .ok (.list r)
  | .rg t it, env => (rgs T it env).bind fun ds => .ok (if t then .tuple ds else .list ds)
def rgs (T : FT) : CI → Env → R (List D)
  | .seq _, _ => .stuck
  | .enum _, _ => .stuck
  | .zip _ _, _ => .stuck
  | .rev _, _ => .stuck
  | .rng1 a, env => (ev T a env).bind fun x => match x with | .int j => if -(2 ^ 62) ≤ j ∧ j ≤ lim then .ok ((List.range j.toNat).map fun k => .int (k : Nat)) else .stuck | _ => .stuck
  | .rng2 a b, env => (ev T a env).bind fun x => (ev T b env).bind fun y => match x, y with
    | .int i, .int j => if -(2 ^ 62) ≤ i ∧ i < 2 ^ 62 ∧ -(2 ^ 62) ≤ j ∧ j < 2 ^ 62 ∧ j - i ≤ lim then .ok ((List.range (j - i).toNat).map fun k => .int (i + (k : Nat))) else .stuck
    | _, _ => .stuck
def evs (T : FT) : CL → Env → R (List D)
  | .nil, _ => .ok []
  | .cons e es, env => (ev T e env).bind fun d => (evs T es env).bind fun ds => .ok (d :: ds)
def its (T : FT) : CI → Env → R (List D)
  | .seq e, env => (ev T e env).bind fun x => match itemsOf x with | some ds => .ok ds | none => .stuck
  | .enum e, env => (ev T e env).bind enumR
  | .zip a b, env => (ev T a env).bind fun x => (ev T b env).bind fun y => zipR x y
  | .rev e, env => (ev T e env).bind revR
  | .rng1 a, env => (ev T a env).bind fun x => match x with | .int j => if -(2 ^ 62) ≤ j ∧ j ≤ lim then .ok ((List.range j.toNat).map fun k => .int (k : Nat)) else .stuck | _ => .stuck
  | .rng2 a b, env => (ev T a env).bind fun x => (ev T b env).bind fun y => match x, y with
    | .int i, .int j => if -(2 ^ 62) ≤ i ∧ i < 2 ^ 62 ∧ -(2 ^ 62) ≤ j ∧ j < 2 ^ 62 ∧ j - i ≤ lim then .ok ((List.range (j - i).toNat).map fun k => .int (i + (k : Nat))) else .stuck
    | _, _ => .stuck
end

/-- the value is a new list or dict, nobody else's -/
def fresh (T : FT) : CE → Bool
  | .lst _ => true | .dct0 => true | .u .listOf _ => true | .u .sorted _ => true | .u .sset _ => true | .b .add _ _ => true | .b .rep _ _ => true | .sl .. => true | .call f _ => T.fr f | .lc .. => true | .rg t _ => !t
  | _ => false
def ownable : D → Bool
  | .list _ => true | .dict _ => true
  | _ => false

/-- tests in which a call that may be refused is asked for its word -/
inductive RX where
  | ref (ws : List (String × Str)) (c : CE) | pl (c : CE) | cmp (ne : Bool) (a b : RX) | and (a b : RX) | or (a b : RX)
def wordR (ws : List (String × Str)) : R D → R D
  | .ok _ => .ok (.str "told")
  | .exc n => match ws.lookup n with | some w => .ok (.str w) | none => .stuck
  | .stuck => .stuck
def cmpR (ne : Bool) (x y : D) : R D :=
  match x, y with
  | .str a, .str b => .ok (.bool (if ne then !decide (a = b) else decide (a = b)))
  | _, _ => .stuck
def evX (T : FT) : RX → Env → R D
  | .ref ws c, env => wordR ws (ev T c env)
  | .pl c, env => (ev T c env).bind fun d => if atom d then .ok d else .stuck
  | .cmp ne a b, env => (evX T a env).bind fun x => (evX T b env).bind fun y => cmpR ne x y
  | .and a b, env => (evX T a env).bind fun x => match x with | .bool true => evX T b env | .bool false => .ok (.bool false) | _ => .stuck
  | .or a b, env => (evX T a env).bind fun x => match x with | .bool true => .ok (.bool true) | .bool false => evX T b env | _ => .stuck

inductive CS where
  | skip | seq (a b : CS) | asg (tg : Tg) (c : CE) | app (i : Nat) (c : CE) | ins (i : Nat) (k c : CE) | ext (i : Nat) (c : CE) | aug (o : B2) (i : Nat) (c : CE)
  | ifS (c : CE) (a b : CS) | forS (tg : Tg) (it : CI) (body : CS) | whileS (c : CE) (body : CS)
  | ret (c : CE) | retV (i : Nat) | retN | exprS (c : CE) | raise (n : String)
  /-- within the next one alone: an item of the hidden list is appended to -/
  | appI (i : Nat) (k c : CE)
  /-- a new list of new empty lists and the loop that fills them -/
  | deep (i : Nat) (c : CE) (tg : Tg) (it : CI) (body : CS)
  | ifR (c : RX) (a b : CS)

inductive O where
  | nx (env : Env) | rt (d : D) | ex (n : String) | st

def lock1 (i : Nat) (env : Env) : Env :=
  match env[i]? with
  | some (some (d, .own)) => env.set i (some (d, .lock))
  | _ => env
def lockL : List Nat → Env → Env
  | [], env => env
  | i :: is, env => lockL is (lock1 i env)
def unlock1 (i : Nat) (env0 env : Env) : Env :=
  match env0[i]?, env[i]? with
  | some (some (_, .own)), some (some (d, .lock)) => env.set i (some (d, .own))
  | _, _ => env
def unlockL : List Nat → Env → Env → Env
  | [], _, env => env
  | i :: is, env0, env => unlockL is env0 (unlock1 i env0 env)
def forL (f : D → Env → O) : List D → Env → O
  | [], env => .nx env
  | d :: ds, env => match f d env with
    | .nx env' => forL f ds env'
    | o => o
def whL (c : Env → R D) (b : Env → O) : Nat → Env → O
  | 0, _ => .st
  | n + 1, env => match c env with
    | .ok (.bool true) => (match b env with
      | .nx env' => whL c b n env'
      | o => o)
    | .ok (.bool false) => .nx env
    | .exc m => .ex m
    | _ => .st
def wfuel : Nat := 1000000
def O.then (o : O) (f : Env → O) : O :=
  match o with
  | .nx env => f env
  | o => o
def R.toO {α : Type} (r : R α) (f : α → O) : O :=
  match r with
  | .ok a => f a
  | .exc n => .ex n
  | .stuck => .st
/-- the names' state behind a value that may share -/
def env1 (c : CE) (d : D) (env : Env) : Env := if atom d then env else freeze (lk0 c) env
def asgE (T : FT) (tg : Tg) (c : CE) (d : D) (env : Env) : R Env :=
  match tg with
  | .one i => if i < (env1 c d env).length then .ok ((env1 c d env).set i (some (d, if fresh T c && ownable d then .own else .fro))) else .stuck
  | tg => bindT tg d (env1 c d env)
/-- what is returned: a def that is told as fresh gives a new list or dict -/
def retOk (T : FT) (fr : Bool) (c : CE) (d : D) : Bool := !fr || !ownable d || fresh T c

def augD : B2 → Int → D → Option Int
  | .add, a, .int b => some (a + b)
  | .sub, a, .int b => some (a - b)
  | _, _, _ => none
/-- a loop's outcome where the name is hidden: the env and the hidden lists -/
inductive OD where
  | nx (env : Env) (xs : List (List D)) | ex (n : String) | st
def R.toOD {α : Type} (r : R α) (f : α → OD) : OD :=
  match r with
  | .ok a => f a
  | .exc n => .ex n
  | .stuck => .st
def OD.then (o : OD) (f : Env → List (List D) → OD) : OD :=
  match o with
  | .nx env xs => f env xs
  | o => o
def OD.toO (o : OD) (f : Env → List (List D) → O) : O :=
  match o with
  | .nx env xs => f env xs
  | .ex n => .ex n
  | .st => .st
def hid (env : Env) (i : Nat) : Bool :=
  match env[i]? with
  | some none => true
  | _ => false
def leafD (i : Nat) (o : O) (xs : List (List D)) : OD :=
  match o with
  | .nx env => if hid env i then .nx env xs else .st
  | .ex n => .ex n
  | _ => .st
def empties : List D → Bool
  | [] => true
  | .list [] :: r => empties r
  | _ => false
def execD (T : FT) (i : Nat) : CS → Env → List (List D) → OD
  | .skip, env, xs => .nx env xs
  | .seq a b, env, xs => (execD T i a env xs).then fun e ys => execD T i b e ys
  | .ifS c a b, env, xs => (ev T c env).toOD fun x => match x with | .bool true => execD T i a env xs | .bool false => execD T i b env xs | _ => .st
  | .asg tg c, env, xs => leafD i ((ev T c env).toO fun d => (asgE T tg c d env).toO fun e => .nx e) xs
  | .appI j k c, env, xs => if j = i then (ev T k env).toOD fun kd => match kd with
    | .int z => if 0 ≤ z ∧ z < xs.length then (ev T c env).toOD fun d => if (xs.getD z.toNat []).length < lim then .nx (env1 c d env) (xs.set z.toNat (xs.getD z.toNat [] ++ [d])) else .st else .st
    | _ => .st else .st
  | _, _, _ => .st
def forD (f : D → Env → List (List D) → OD) : List D → Env → List (List D) → OD
  | [], env, xs => .nx env xs
  | d :: ds, env, xs => match f d env xs with
    | .nx env' xs' => forD f ds env' xs'
    | o => o
def exec (T : FT) (fr : Bool) : CS → Env → O
  | .skip, env => .nx env
  | .seq a b, env => (exec T fr a env).then fun e => exec T fr b e
  | .asg tg c, env => (ev T c env).toO fun d => (asgE T tg c d env).toO fun e => .nx e
  | .app i c, env => match env[i]? with
    | some (some (.list _, .own)) => (ev T c env).toO fun d => match (env1 c d env)[i]? with
      | some (some (.list xs, .own)) => if xs.length < lim then .nx ((env1 c d env).set i (some (.list (xs ++ [d]), .own))) else .st
      | _ => .st
    | _ => .st
  | .ins i k c, env => match env[i]? with
    | some (some (.list _, .own)) => (ev T k env).toO fun j => (ev T c env).toO fun d => match j, (env1 c d env)[i]? with
      | .int j, some (some (.list xs, .own)) => if xs.length < lim ∧ 0 ≤ j ∧ j < 2 ^ 63 then .nx ((env1 c d env).set i (some (.list (xs.take j.toNat ++ [d] ++ xs.drop j.toNat), .own))) else .st
      | _, _ => .st
    | _ => .st
  | .ext i c, env => match env[i]? with
    | some (some (.list _, .own)) => (ev T c env).toO fun d => match (freeze (lk1 c) env)[i]?, itemsOf d with
      | some (some (.list xs, .own)), some ds => if xs.length + ds.length ≤ lim then .nx ((freeze (lk1 c) env).set i (some (.list (xs ++ ds), .own))) else .st
      | _, _ => .st
    | _ => .st
  | .aug o i c, env => match env[i]? with
    | some (some (.int a, _)) => (ev T c env).toO fun d => match augD o a d with | some z => .nx (env.set i (some (.int z, .fro))) | none => .st
    | _ => .st
  | .ifS c a b, env => (ev T c env).toO fun x => match x with | .bool true => exec T fr a env | .bool false => exec T fr b env | _ => .st
  | .ifR c a b, env => (evX T c env).toO fun x => match x with | .bool true => exec T fr a env | .bool false => exec T fr b env | _ => .st
  | .forS tg it body, env => (its T it env).toO fun ds =>
      let L := lkI0 it
      let env1 := lockL L (freeze (lkI it) env)
      (forL (fun d e => (bindT tg d e).toO fun e' => exec T fr body e') ds env1).then fun e => .nx (unlockL L (freeze (lkI it) env) e)
  | .whileS c body, env => whL (fun e => ev T c e) (fun e => exec T fr body e) wfuel env
  | .ret c, env => (ev T c env).toO fun d => if retOk T fr c d then .rt d else .st
  | .retV i, env => match env[i]? with
    | some (some (d, fl)) => if !fr || !ownable d || decide (fl = .own) then .rt d else .st
    | _ => .st
  | .retN, _ => .rt .none
  | .exprS c, env => (ev T c env).toO fun _ => .nx env
  | .raise n, _ => .ex n
  | .appI .., _ => .st
  | .deep i c tg it body, env => if hid env i then (ev T c env).toO fun d => match d with
      | .list ds => if empties ds then (its T it env).toO fun ws =>
          (forD (fun w e xs => (bindT tg w e).toOD fun e' => if hid e' i then execD T i body e' xs else .st) ws (lockL (lkI0 it) (freeze (lkI it) env)) (ds.map fun _ => [])).toO fun e xs =>
            .nx ((unlockL (lkI0 it) (freeze (lkI it) env) e).set i (some (.list (xs.map .list), .fro)))
        else .st
      | _ => .st
    else .st

structure FDef where
  np : Nat
  nl : Nat
  fresh : Bool
  body : CS
def start (n : Nat) (ds : List D) : Env := (ds.map fun d => some (d, Fl.fro)) ++ List.replicate (n - ds.length) none
def O.toR : O → R D
  | .nx _ => .ok .none
  | .rt d => .ok d
  | .ex n => .exc n
  | .st => .stuck
abbrev Tab := String → Option FDef
def frOf (T : Tab) (f : String) : Bool := match T f with | some fd => fd.fresh | none => false
def callT (T : Tab) : Nat → String → List D → R D
  | 0, _, _ => .stuck
  | k + 1, f, ds => match T f with
    | some fd => if ds.length = fd.np then (exec ⟨callT T k, frOf T⟩ fd.fresh fd.body (start fd.nl ds)).toR else .stuck
    | none => .stuck
end L3

set_option Elab.async false
set_option linter.all false
set_option maxRecDepth 100000
set_option maxHeartbeats 1000000
/-! data trees in the abstract heap, the frame's names as data -/
namespace L3
open PySem PySem.Spec PyProof.Rows L2

abbrev Av := Addr → Prop
/-- a list that is read: tracked, not avoided; or one of the module's own -/
def LsR (K : PySem.W.Frag) (H : Hp) (A0 : Av) (a : Addr) (vs : List V) : Prop :=
  (¬ A0 a ∧ Rd H a (.lst vs)) ∨ ∃ (o : Obj) (its : Array Value) (n : Nat), K.lookup a = some o ∧ o.cls = .type "list" ∧ o.dict = none ∧ o.data = .seq its n ∧ its.size ≤ sizeLine ∧ Vals vs its.toList
theorem LsR.sql {K : PySem.W.Frag} {H : Hp} {A0 : Av} {a : Addr} {vs : List V} (h : LsR K H A0 a vs) : SqL K H a vs := h.imp And.right id
mutual
/-- v stands for d; no list or dict of it lies at an address of A -/
inductive Rep (K : PySem.W.Frag) (H : Hp) (A : Av) : D → V → Prop
  | non : Rep K H A .none .non
  | bl (b : Bool) : Rep K H A (.bool b) (.bl b)
  | int (i : Int) : Rep K H A (.int i) (.int i)
  | str (x : Str) : Rep K H A (.str x) (.str x)
  | lst {a : Addr} {vs : List V} {ds : List D} : LsR K H A a vs → Reps K H A ds vs → Rep K H A (.list ds) (.ref a)
  | tup {a : Addr} {vs : List V} {ds : List D} : SqT K H a vs → Reps K H A ds vs → Rep K H A (.tuple ds) (.ref a)
  | dct {a : Addr} : ¬ A a → H a = some (.dK []) → Rep K H A (.dict []) (.ref a)
inductive Reps (K : PySem.W.Frag) (H : Hp) (A : Av) : List D → List V → Prop
  | nil : Reps K H A [] []
  | cons {d : D} {ds : List D} {v : V} {vs : List V} : Rep K H A d v → Reps K H A ds vs → Reps K H A (d :: ds) (v :: vs)
end
/-- the outside by A0, the inside by A -/
def RepT (K : PySem.W.Frag) (H : Hp) (A0 A : Av) (d : D) (v : V) : Prop :=
  match d with
  | .list ds => ∃ a vs, v = .ref a ∧ LsR K H A0 a vs ∧ Reps K H A ds vs
  | .dict kvs => ∃ a, v = .ref a ∧ ¬ A0 a ∧ H a = some (.dK []) ∧ kvs = []
  | d => Rep K H A d v

/-- an object that never changes -/
def tupo : HO → Bool
  | .tup _ => true
  | .frz _ _ => true
  | _ => false
section
variable {K : PySem.W.Frag} {H H' : Hp} {A A' A0 A0' : Av} {d : D} {v : V}
theorem rd_stay (hs : ∀ b o, H b = some o → (¬ A b ∨ tupo o = true) → H' b = some o) {a : Addr} {vs : List V} (na : ¬ A a) (h : Rd H a (.lst vs)) : Rd H' a (.lst vs) := by
  rcases h with h | ⟨o, h⟩
  · exact .inl (hs _ _ h (.inl na))
  · exact .inr ⟨o, hs _ _ h (.inl na)⟩
theorem rd_some {a : Addr} {u : HO} (h : Rd H a u) : H a ≠ none := by
  rcases h with h | ⟨o, h⟩ <;> (rw [h]; simp)
theorem ls_stay {A1 A1' : Av} (hs : ∀ b o, H b = some o → (¬ A1 b ∨ tupo o = true) → H' b = some o) (ha : ∀ a, A1' a → A1 a ∨ H a = none) {a : Addr} {vs : List V} (h : LsR K H A1 a vs) : LsR K H' A1' a vs :=
  h.imp (fun ⟨na, hr⟩ => ⟨fun z => (ha _ z).elim na (rd_some hr), rd_stay hs na hr⟩) id
theorem sqt_stay (hs : ∀ b o, H b = some o → (¬ A b ∨ tupo o = true) → H' b = some o) {a : Addr} {vs : List V} (h : SqT K H a vs) : SqT K H' a vs := by
  rcases h with (h | ⟨o, h⟩) | h
  · exact .inl (.inl (hs _ _ h (.inr rfl)))
  · exact .inl (.inr ⟨o, hs _ _ h (.inr rfl)⟩)
  · exact .inr h
mutual
theorem Rep.stay (hs : ∀ b o, H b = some o → (¬ A b ∨ tupo o = true) → H' b = some o) (ha : ∀ a, A' a → A a ∨ H a = none) : ∀ (d : D) (v : V), Rep K H A d v → Rep K H' A' d v
  | .none, _, h => by cases h; exact .non
  | .bool b, _, h => by cases h; exact .bl b
  | .int b, _, h => by cases h; exact .int b
  | .str b, _, h => by cases h; exact .str b
  | .list ds, _, h => by
    cases h with
    | lst hr hk => exact .lst (ls_stay hs ha hr) (Reps.stay hs ha ds _ hk)
  | .tuple ds, _, h => by
    cases h with
    | tup hr hk => exact .tup (sqt_stay hs hr) (Reps.stay hs ha ds _ hk)
  | .dict kvs, _, h => by
    cases h with
    | dct na hr => exact .dct (fun z => (ha _ z).elim na (fun e => by rw [hr] at e; cases e)) (hs _ _ hr (.inl na))
theorem Reps.stay (hs : ∀ b o, H b = some o → (¬ A b ∨ tupo o = true) → H' b = some o) (ha : ∀ a, A' a → A a ∨ H a = none) : ∀ (ds : List D) (vs : List V), Reps K H A ds vs → Reps K H' A' ds vs
  | [], _, h => by cases h; exact .nil
  | d :: ds, _, h => by
    cases h with
    | cons h1 h2 => exact .cons (Rep.stay hs ha d _ h1) (Reps.stay hs ha ds _ h2)
end
theorem RepT.stay (hs : ∀ b o, H b = some o → (¬ A b ∨ tupo o = true) → H' b = some o) (ha : ∀ a, A' a → A a ∨ H a = none)
    (hs0 : ∀ b o, H b = some o → ¬ A0 b → H' b = some o) (ha0 : ∀ a, A0' a → A0 a ∨ H a = none) (h : RepT K H A0 A d v) : RepT K H' A0' A' d v := by
  cases d with
  | list ds =>
    obtain ⟨a, vs, e, hr, hk⟩ := h
    refine ⟨a, vs, e, hr.imp (fun ⟨na, hr⟩ => ⟨fun z => (ha0 _ z).elim na (rd_some hr), ?_⟩) id, Reps.stay hs ha ds _ hk⟩
    rcases hr with hr | ⟨o, hr⟩
    · exact .inl (hs0 _ _ hr na)
    · exact .inr ⟨o, hs0 _ _ hr na⟩
  | dict kvs =>
    obtain ⟨a, e, na, hr, hk⟩ := h
    exact ⟨a, e, fun z => (ha0 _ z).elim na (fun e => by rw [hr] at e; cases e), hs0 _ _ hr na, hk⟩
  | none => exact Rep.stay hs ha _ _ h
  | bool b => exact Rep.stay hs ha _ _ h
  | int b => exact Rep.stay hs ha _ _ h
  | str b => exact Rep.stay hs ha _ _ h
  | tuple b => exact Rep.stay hs ha _ _ h
theorem same_stay {P : Addr → HO → Prop} (e : Same H H') : ∀ b o, H b = some o → P b o → H' b = some o := fun b o h _ => e b o h
theorem Rep.same (e : Same H H') (h : Rep K H A d v) : Rep K H' A d v := Rep.stay (fun b o q _ => e b o q) (fun _ z => .inl z) d v h
theorem Reps.same {ds : List D} {vs : List V} (e : Same H H') (h : Reps K H A ds vs) : Reps K H' A ds vs := Reps.stay (fun b o q _ => e b o q) (fun _ z => .inl z) ds vs h
theorem RepT.same (e : Same H H') (h : RepT K H A0 A d v) : RepT K H' A0 A d v := RepT.stay (fun b o q _ => e b o q) (fun _ z => .inl z) (fun b o q _ => e b o q) (fun _ z => .inl z) h
theorem RepT.anti (h : RepT K H A0 A d v) (h0 : ∀ a, A0' a → A0 a) (h1 : ∀ a, A' a → A a) : RepT K H A0' A' d v := RepT.stay (fun b o q _ => q) (fun a z => .inl (h1 a z)) (fun b o q _ => q) (fun a z => .inl (h0 a z)) h
theorem Rep.anti (h : Rep K H A d v) (h1 : ∀ a, A' a → A a) : Rep K H A' d v := Rep.stay (fun b o q _ => q) (fun a z => .inl (h1 a z)) d v h
theorem Reps.anti {ds : List D} {vs : List V} (h : Reps K H A ds vs) (h1 : ∀ a, A' a → A a) : Reps K H A' ds vs := Reps.stay (fun b o q _ => q) (fun a z => .inl (h1 a z)) ds vs h
theorem repT_of (h : Rep K H A d v) : RepT K H A A d v := by
  cases h with
  | lst hr hk => exact ⟨_, _, rfl, hr, hk⟩
  | dct na hr => exact ⟨_, rfl, na, hr, rfl⟩
  | non => exact .non
  | bl b => exact .bl b
  | int b => exact .int b
  | str b => exact .str b
  | tup a b => exact .tup a b
theorem rep_of (h : RepT K H A A d v) : Rep K H A d v := by
  cases d with
  | list ds => obtain ⟨a, vs, rfl, hr, hk⟩ := h; exact .lst hr hk
  | dict kvs => obtain ⟨a, rfl, na, hr, rfl⟩ := h; exact .dct na hr
  | none => exact h
  | bool b => exact h
  | int b => exact h
  | str b => exact h
  | tuple b => exact h
theorem Reps.length : ∀ {ds : List D} {vs : List V}, Reps K H A ds vs → ds.length = vs.length
  | [], _, h => by cases h; rfl
  | d :: ds, _, h => by
    cases h with
    | cons h1 h2 => simp [Reps.length h2]
theorem Reps.get : ∀ {ds : List D} {vs : List V} {i : Nat} {d : D}, Reps K H A ds vs → ds[i]? = some d → ∃ v, vs[i]? = some v ∧ Rep K H A d v
  | [], _, _, _, _, e => by simp at e
  | d :: ds, _, 0, _, h, e => by
    cases h with
    | cons h1 h2 => simp at e; subst e; exact ⟨_, rfl, h1⟩
  | d :: ds, _, i + 1, _, h, e => by
    cases h with
    | cons h1 h2 =>
      obtain ⟨v, e1, e2⟩ := Reps.get (i := i) h2 (by simpa using e)
      exact ⟨v, by simpa using e1, e2⟩
theorem Reps.append : ∀ {ds es : List D} {vs us : List V}, Reps K H A ds vs → Reps K H A es us → Reps K H A (ds ++ es) (vs ++ us)
  | [], _, _, _, h, h' => by cases h; exact h'
  | d :: ds, _, _, _, h, h' => by
    cases h with
    | cons h1 h2 => exact .cons h1 (Reps.append h2 h')
theorem Reps.take : ∀ {ds : List D} {vs : List V} (n : Nat), Reps K H A ds vs → Reps K H A (ds.take n) (vs.take n)
  | [], _, n, h => by cases h; simp; exact .nil
  | d :: ds, _, 0, h => by simp; exact .nil
  | d :: ds, _, n + 1, h => by
    cases h with
    | cons h1 h2 => simp; exact .cons h1 (Reps.take n h2)
theorem Reps.drop : ∀ {ds : List D} {vs : List V} (n : Nat), Reps K H A ds vs → Reps K H A (ds.drop n) (vs.drop n)
  | [], _, n, h => by cases h; simp; exact .nil
  | d :: ds, _, 0, h => h
  | d :: ds, _, n + 1, h => by
    cases h with
    | cons h1 h2 => simp; exact Reps.drop n h2
theorem Reps.reverse : ∀ {ds : List D} {vs : List V}, Reps K H A ds vs → Reps K H A ds.reverse vs.reverse
  | [], _, h => by cases h; exact .nil
  | d :: ds, _, h => by
    cases h with
    | cons h1 h2 => simp only [List.reverse_cons]; exact Reps.append (Reps.reverse h2) (.cons h1 .nil)
theorem Reps.mem : ∀ {ds : List D} {vs : List V} {v : V}, Reps K H A ds vs → v ∈ vs → ∃ d, d ∈ ds ∧ Rep K H A d v
  | [], _, _, h, e => by cases h; simp at e
  | d :: ds, _, _, h, e => by
    cases h with
    | cons h1 h2 =>
      rcases List.mem_cons.mp e with rfl | e
      · exact ⟨d, List.mem_cons_self, h1⟩
      · obtain ⟨d', m, r⟩ := Reps.mem h2 e
        exact ⟨d', List.mem_cons_of_mem _ m, r⟩

/-- an atom's value -/
def toV : D → V
  | .none => .non | .bool b => .bl b | .int i => .int i | .str x => .str x
  | _ => .non
theorem rep_atom (h : atom d = true) : Rep K H A d (toV d) := by
  cases d <;> first | exact .non | exact .bl _ | exact .int _ | exact .str _ | cases h
theorem repT_atom (h : atom d = true) : RepT K H A0 A d (toV d) := by
  cases d <;> first | exact Rep.non | exact Rep.bl _ | exact Rep.int _ | exact Rep.str _ | cases h
theorem atom_rep (h : atom d = true) (r : RepT K H A0 A d v) : v = toV d := by
  cases d <;> first | (cases r; rfl) | cases h

mutual
theorem Rep.dp : ∀ (d : D) (v : V), Rep K H A d v → d.canLay0 = true → Dp K H v d
  | .none, _, h, _ => by cases h; exact .non
  | .bool b, _, h, _ => by cases h; exact .bl b
  | .int b, _, h, _ => by cases h; exact .int b
  | .str b, _, h, _ => by cases h; exact .str b
  | .list ds, _, h, c => by
    cases h with
    | lst hr hk => exact .lst hr.sql (Reps.dp ds _ hk (by simpa [PyData.canLay0] using c))
  | .tuple ds, _, h, c => by
    cases h with
    | tup hr hk => exact .tup hr (Reps.dp ds _ hk (by simpa [PyData.canLay0] using c))
  | .dict kvs, _, h, c => by simp [PyData.canLay0] at c
theorem Reps.dp : ∀ (ds : List D) (vs : List V), Reps K H A ds vs → PyData.canLayAll0 ds = true → DpAll K H vs ds
  | [], _, h, _ => by cases h; exact .nil
  | d :: ds, _, h, c => by
    have c' : d.canLay0 = true ∧ PyData.canLayAll0 ds = true := by simpa [PyData.canLayAll0] using c
    cases h with
    | cons h1 h2 => exact .cons (Rep.dp d _ h1 c'.1) (Reps.dp ds _ h2 c'.2)
end
theorem RepT.toRep (h : RepT K H A0 A d v) : Rep K H (fun _ => False) d v := rep_of (h.anti (fun _ z => z.elim) fun _ z => z.elim)
theorem RepT.dp (h : RepT K H A0 A d v) (c : d.canLay0 = true) : Dp K H v d := Rep.dp d v h.toRep c
end

/-! ### the frame's names -/
def ExM (ex : Nat → Option Addr) (A : Av) (L : List Nat) : Av := fun a => A a ∨ ∃ i, ex i = some a ∧ i ∉ L
/-- an object of one's own -/
def Own1 (H : Hp) (a : Addr) : D → Prop
  | .list _ => ∃ vs, H a = some (.lst vs)
  | .dict _ => ∃ kvs, H a = some (.dK kvs)
  | _ => False
structure SR (K : PySem.W.Frag) (A : Av) (H₀ H : Hp) (env : Env) (ex : Nat → Option Addr) (σ : L2.St) : Prop where
  len : σ.length = env.length
  inj : ∀ i j a, ex i = some a → ex j = some a → i = j
  dom : ∀ a, A a → H a ≠ none
  new : ∀ i a, ex i = some a → ¬ A a
  old : ∀ i a, ex i = some a → H₀ a = none
  same : Same H₀ H
  hasv : ∀ i a, ex i = some a → ∃ d fl, env[i]? = some (some (d, fl)) ∧ fl ≠ .fro
  at_ : ∀ i d fl, env[i]? = some (some (d, fl)) → ∃ v, σ[i]? = some (some v) ∧ RepT K H (ExM ex A [i]) (ExM ex A []) d v ∧ (fl = .fro ∨ ∃ a, v = .ref a ∧ ex i = some a ∧ Own1 H a d)
section
variable {K : PySem.W.Frag} {A A' : Av} {H₀ H H' : Hp} {env : Env} {ex : Nat → Option Addr} {σ : L2.St}
theorem Own1.same {a : Addr} {d : D} (h : Own1 H a d) (e : Same H H') : Own1 H' a d := by
  cases d <;> first | exact h.elim | (obtain ⟨vs, h⟩ := h; exact ⟨vs, e _ _ h⟩)
theorem Own1.there {a : Addr} {d : D} (h : Own1 H a d) : H a ≠ none := by
  cases d <;> first | exact h.elim | (obtain ⟨vs, h⟩ := h; rw [h]; simp)
theorem Own1.ntup {a : Addr} {d : D} {o : HO} (h : Own1 H a d) (e : H a = some o) : tupo o = false := by
  cases d <;> first | exact h.elim | (obtain ⟨vs, h⟩ := h; rw [h] at e; cases e; rfl)
theorem SR.ext (S : SR K A H₀ H env ex σ) (e : Same H H') : SR K A H₀ H' env ex σ where
  len := S.len
  inj := S.inj
  dom := fun a z q => S.dom a z (e.free q)
  new := S.new
  old := S.old
  same := S.same.trans e
  hasv := S.hasv
  at_ := fun i d fl h => by
    obtain ⟨v, e1, r, o⟩ := S.at_ i d fl h
    exact ⟨v, e1, r.same e, o.imp id fun ⟨a, x, y, z⟩ => ⟨a, x, y, z.same e⟩⟩
theorem SR.exSome (S : SR K A H₀ H env ex σ) {i : Nat} {a : Addr} (h : ex i = some a) : H a ≠ none := by
  obtain ⟨d, fl, e, nf⟩ := S.hasv i a h
  obtain ⟨v, _, _, o⟩ := S.at_ i d fl e
  rcases o with o | ⟨b, _, x, y⟩
  · exact absurd o nf
  · rw [h] at x; cases x; exact y.there
/-- all that is avoided stands in the heap -/
theorem SR.exDom (S : SR K A H₀ H env ex σ) (L : List Nat) : ∀ a, ExM ex A L a → H a ≠ none := fun a z => by
  rcases z with z | ⟨i, z, _⟩
  · exact S.dom a z
  · exact S.exSome z
theorem ExM.sub {L L' : List Nat} (h : ∀ i, i ∈ L → i ∈ L') : ∀ a, ExM ex A L' a → ExM ex A L a := fun a z => by
  rcases z with z | ⟨i, z, n⟩
  · exact .inl z
  · exact .inr ⟨i, z, fun m => n (h i m)⟩
/-- further avoided addresses, which are none's that is known -/
theorem SR.more (S : SR K A H₀ H env ex σ) (hA : ∀ a, A' a → A a ∨ H a = none) {H' : Hp} (e : Same H H') (hd : ∀ a, A' a → H' a ≠ none) : SR K A' H₀ H' env ex σ where
  len := S.len
  inj := S.inj
  dom := hd
  new := fun i a h z => (hA a z).elim (S.new i a h) (S.exSome h)
  old := S.old
  same := S.same.trans e
  hasv := S.hasv
  at_ := fun i d fl h => by
    obtain ⟨v, e1, r, o⟩ := S.at_ i d fl h
    refine ⟨v, e1, RepT.stay (fun b o q _ => e b o q) (fun a z => ?_) (fun b o q _ => e b o q) (fun a z => ?_) r, o.imp id fun ⟨a, x, y, z⟩ => ⟨a, x, y, z.same e⟩⟩
    · rcases z with z | z
      · exact (hA a z).imp .inl id
      · exact .inl (.inr z)
    · rcases z with z | z
      · exact (hA a z).imp .inl id
      · exact .inl (.inr z)
end

/-! ### the heap without tables of code objects -/
def ntb : HO → Bool
  | .tbl _ => false
  | _ => true
def rt (H : Hp) : Hp := fun b => match H b with
  | some (.tbl _) => none
  | o => o
theorem rt_of {H : Hp} {b : Addr} {o : HO} (h : H b = some o) (n : ntb o = true) : rt H b = some o := by
  unfold rt
  rw [h]
  cases o <;> first | rfl | cases n
theorem rt_some {H : Hp} {b : Addr} {o : HO} (h : rt H b = some o) : H b = some o ∧ ntb o = true := by
  unfold rt at h
  split at h
  · cases h
  · rename_i hn
    refine ⟨h, ?_⟩
    cases o <;> first | rfl | skip
    exact absurd h (hn _)
theorem rt_none {H : Hp} {b : Addr} (h : H b = none) : rt H b = none := by unfold rt; rw [h]
theorem rt_free {H : Hp} {b : Addr} (h : rt H b = none) : H b = none ∨ ∃ ps, H b = some (.tbl ps) := by
  cases hq : H b with
  | none => exact .inl rfl
  | some o =>
    cases o with
    | tbl ps => exact .inr ⟨ps, rfl⟩
    | _ => rw [rt_of hq rfl] at h; cases h
theorem Rd.rt {H : Hp} {a : Addr} {u : HO} (h : Rd H a u) (n : ntb u = true) : Rd (L3.rt H) a u := by
  rcases h with h | ⟨o, h⟩
  · exact .inl (rt_of h n)
  · exact .inr ⟨o, rt_of h rfl⟩
section
variable {K : PySem.W.Frag} {H : Hp} {A A0 : Av}
theorem LsR.rt {a : Addr} {vs : List V} (h : LsR K H A0 a vs) : LsR K (L3.rt H) A0 a vs := h.imp (fun ⟨x, y⟩ => ⟨x, Rd.rt y rfl⟩) id
theorem sqT_rt {a : Addr} {vs : List V} (h : SqT K H a vs) : SqT K (L3.rt H) a vs := h.imp (fun y => Rd.rt y rfl) id
mutual
theorem Rep.rt : ∀ (d : D) (v : V), Rep K H A d v → Rep K (L3.rt H) A d v
  | .none, _, h => by cases h; exact .non
  | .bool b, _, h => by cases h; exact .bl b
  | .int b, _, h => by cases h; exact .int b
  | .str b, _, h => by cases h; exact .str b
  | .list ds, _, h => by
    cases h with
    | lst hr hk => exact .lst hr.rt (Reps.rt ds _ hk)
  | .tuple ds, _, h => by
    cases h with
    | tup hr hk => exact .tup (sqT_rt hr) (Reps.rt ds _ hk)
  | .dict kvs, _, h => by
    cases h with
    | dct na hr => exact .dct na (rt_of hr rfl)
theorem Reps.rt : ∀ (ds : List D) (vs : List V), Reps K H A ds vs → Reps K (L3.rt H) A ds vs
  | [], _, h => by cases h; exact .nil
  | d :: ds, _, h => by
    cases h with
    | cons h1 h2 => exact .cons (Rep.rt d _ h1) (Reps.rt ds _ h2)
end
theorem RepT.rt {d : D} {v : V} (h : RepT K H A0 A d v) : RepT K (L3.rt H) A0 A d v := by
  cases d with
  | list ds => obtain ⟨a, vs, e, hr, hk⟩ := h; exact ⟨a, vs, e, hr.rt, Reps.rt _ _ hk⟩
  | dict kvs => obtain ⟨a, e, na, hr, hk⟩ := h; exact ⟨a, e, na, rt_of hr rfl, hk⟩
  | none => exact Rep.rt _ _ h
  | bool b => exact Rep.rt _ _ h
  | int b => exact Rep.rt _ _ h
  | str b => exact Rep.rt _ _ h
  | tuple b => exact Rep.rt _ _ h
end
end L3

set_option Elab.async false
set_option linter.all false
set_option maxRecDepth 100000
set_option maxHeartbeats 1000000
/-! the operators on data, by the hand layer's rules -/
namespace L3
open PySem PySem.Spec PyProof.Rows L2

theorem PE.imp {X : Cx} {e : Expr} {t t' : TE} (h : PE X e t) (hi : ∀ pins s σ H Q, Inv X pins σ H s → t' σ H Q → t σ H Q) : PE X e t' :=
  ⟨fun pins s σ H Q I q => h.run pins s σ H Q I (hi pins s σ H Q I q)⟩
theorem PT.imp {X : Cx} {e : Expr} {t t' : TT} (h : PT X e t) (hi : ∀ pins s σ H Q, Inv X pins σ H s → t' σ H Q → t σ H Q) : PT X e t' :=
  ⟨fun pins s σ H Q I q => h.run pins s σ H Q I (hi pins s σ H Q I q)⟩
theorem PS.imp {X : Cx} {e : Stmt} {t t' : TS} (h : PS X e t) (hi : ∀ pins s σ H D, Inv X pins σ H s → t' D σ H → t D σ H) : PS X e t' :=
  ⟨fun pins s σ H Q I q => h.run pins s σ H Q I (hi pins s σ H Q I q)⟩
theorem OpR.imp {X : Cx} {f : Value → Value → Sem Value} {r r' : R2} (h : OpR X f r) (hi : ∀ pins s σ H x y Q, Inv X pins σ H s → r' x y H Q → r x y H Q) : OpR X f r' :=
  fun pins s σ H x y v u Q I rx ry q => h pins s σ H x y v u Q I rx ry (hi pins s σ H x y Q I q)

section
variable {K : PySem.W.Frag} {H H' : Hp} {A A' A0 A0' B B0 : Av} {d : D} {v : V}
theorem same_upd {p : Addr} {o : HO} (h : H p = none) : Same H (upd H p o) := fun b x e => by
  rw [upd_ne (ne_of_none e h)]; exact e
/-- a new object at a, nothing else's -/
def Nw (K : PySem.W.Frag) (H H' : Hp) (A : Av) (d : D) (v : V) : Prop :=
  ownable d = true → ∃ a, v = .ref a ∧ H a = none ∧ Own1 H' a d ∧ RepT K H' (fun _ => False) (fun x => A x ∨ x = a) d v
theorem Nw.anti (h : Nw K H H' A d v) (ha : ∀ a, A' a → A a) : Nw K H H' A' d v := fun o => by
  obtain ⟨a, e, n, w, r⟩ := h o
  exact ⟨a, e, n, w, r.anti (fun _ z => z) fun x z => z.imp (ha x) id⟩
theorem Nw.of_na (h : ownable d = false) : Nw K H H' A d v := fun o => by rw [h] at o; cases o
theorem lst_new {p : Addr} {ds : List D} {vs : List V} (hp : H p = none) (hd : ∀ a, A a → H a ≠ none) (hk : Reps K H A ds vs) :
    Rep K (upd H p (.lst vs)) A (.list ds) (.ref p) ∧ Nw K H (upd H p (.lst vs)) A (.list ds) (.ref p) := by
  have hs := same_upd (o := HO.lst vs) hp
  refine ⟨.lst (.inl ⟨fun z => hd p z hp, .inl upd_same⟩) (hk.same hs), fun _ => ⟨p, rfl, hp, ⟨vs, upd_same⟩, ⟨p, vs, rfl, .inl ⟨fun z => z, .inl upd_same⟩, ?_⟩⟩⟩
  exact Reps.stay (fun b o q _ => hs b o q) (fun a z => z.imp id fun e => by rw [e]; exact hp) ds vs hk
theorem tup_new {p : Addr} {ds : List D} {vs : List V} (hp : H p = none) (hk : Reps K H A ds vs) :
    Rep K (upd H p (.tup vs)) A (.tuple ds) (.ref p) ∧ Nw K H (upd H p (.tup vs)) A (.tuple ds) (.ref p) :=
  ⟨.tup (.inl (.inl upd_same)) (hk.same (same_upd hp)), .of_na rfl⟩
theorem dct_new {p : Addr} (hp : H p = none) (hd : ∀ a, A a → H a ≠ none) :
    Rep K (upd H p (.dK [])) A (.dict []) (.ref p) ∧ Nw K H (upd H p (.dK [])) A (.dict []) (.ref p) :=
  ⟨.dct (fun z => hd p z hp) upd_same, fun _ => ⟨p, rfl, hp, ⟨[], upd_same⟩, ⟨p, rfl, fun z => z, upd_same, rfl⟩⟩⟩
/-- what is wanted of a result that stands for d -/
def Res (K : PySem.W.Frag) (H : Hp) (A : Av) (fr : Bool) (d : D) (Q : VK) : Prop := ∀ v H', Same H H' → Rep K H' A d v → (fr = true → Nw K H H' A d v) → Q v H'
end

/-! ### operators: what is told is an atom -/
def rA (K : PySem.W.Frag) (o : B2) : R2 := fun x y H Q => ∃ A0 A B0 B dx dy d, RepT K H A0 A dx x ∧ RepT K H B0 B dy y ∧ op2 o dx dy = .ok d ∧ atom d = true ∧ Q (toV d) H
section
variable {X : Cx}
theorem ok_inj {α : Type} {a b : α} (h : R.ok a = .ok b) : a = b := by cases h; rfl
theorem opA_sub : OpR X (binaryOp .Sub) (rA X.K .sub) := OpR.imp op_sub fun pins s σ H x y Q I ⟨A0, A, B0, B, dx, dy, d, r1, r2, e, ha, q⟩ => by
  cases dx <;> cases dy <;> first | (simp [op2] at e; done) | skip
  cases r1; cases r2; simp [op2] at e; subst e
  exact ⟨_, _, rfl, rfl, q⟩
theorem opA_mul : OpR X (binaryOp .Mult) (rA X.K .mul) := OpR.imp op_mul fun pins s σ H x y Q I ⟨A0, A, B0, B, dx, dy, d, r1, r2, e, ha, q⟩ => by
  cases dx <;> cases dy <;> first | (simp [op2] at e; done) | skip
  cases r1; cases r2
  simp only [op2] at e
  split at e
  · rename_i h; cases e
    exact ⟨_, _, rfl, rfl, h, q⟩
  · cases e
theorem opA_fdiv : OpR X (binaryOp .FloorDiv) (rA X.K .fdiv) := OpR.imp op_fdiv fun pins s σ H x y Q I ⟨A0, A, B0, B, dx, dy, d, r1, r2, e, ha, q⟩ => by
  cases dx <;> cases dy <;> first | (simp [op2] at e; done) | skip
  cases r1; cases r2
  simp only [op2] at e
  split at e
  · rename_i h; cases e
    exact ⟨_, _, rfl, rfl, h, q⟩
  · cases e
theorem opA_mod : OpR X (binaryOp .Mod) (rA X.K .mod) := OpR.imp op_mod fun pins s σ H x y Q I ⟨A0, A, B0, B, dx, dy, d, r1, r2, e, ha, q⟩ => by
  cases dx <;> cases dy <;> first | (simp [op2] at e; done) | skip
  cases r1; cases r2
  simp only [op2] at e
  split at e
  · rename_i h; cases e
    exact ⟨_, _, rfl, rfl, h, q⟩
  · cases e
theorem opA_pow : OpR X (binaryOp .Pow) (rA X.K .pow) := OpR.imp op_pow fun pins s σ H x y Q I ⟨A0, A, B0, B, dx, dy, d, r1, r2, e, ha, q⟩ => by
  cases dx <;> cases dy <;> first | (simp [op2] at e; done) | skip
  cases r1; cases r2
  simp only [op2] at e
  split at e
  · rename_i h; cases e
    exact ⟨_, _, rfl, rfl, h, q⟩
  · cases e
theorem opA_shl : OpR X (binaryOp .LShift) (rA X.K .shl) := OpR.imp op_shl fun pins s σ H x y Q I ⟨A0, A, B0, B, dx, dy, d, r1, r2, e, ha, q⟩ => by
  cases dx <;> cases dy <;> first | (simp [op2] at e; done) | skip
  cases r1; cases r2
  simp only [op2] at e
  split at e
  · rename_i h; cases e
    exact ⟨_, _, rfl, rfl, h, q⟩
  · cases e
theorem opA_shr : OpR X (binaryOp .RShift) (rA X.K .shr) := OpR.imp op_shr fun pins s σ H x y Q I ⟨A0, A, B0, B, dx, dy, d, r1, r2, e, ha, q⟩ => by
  cases dx <;> cases dy <;> first | (simp [op2] at e; done) | skip
  cases r1; cases r2
  simp only [op2] at e
  split at e
  · rename_i h; cases e
    exact ⟨_, _, rfl, rfl, h, q⟩
  · cases e
theorem opA_band : OpR X (binaryOp .BitAnd) (rA X.K .band) := OpR.imp op_and fun pins s σ H x y Q I ⟨A0, A, B0, B, dx, dy, d, r1, r2, e, ha, q⟩ => by
  cases dx <;> cases dy <;> first | (simp [op2] at e; done) | skip
  cases r1; cases r2; simp [op2] at e; subst e
  exact ⟨_, _, rfl, rfl, q⟩
theorem opA_bor : OpR X (binaryOp .BitOr) (rA X.K .bor) := OpR.imp op_or fun pins s σ H x y Q I ⟨A0, A, B0, B, dx, dy, d, r1, r2, e, ha, q⟩ => by
  cases dx <;> cases dy <;> first | (simp [op2] at e; done) | skip
  cases r1; cases r2; simp [op2] at e; subst e
  exact ⟨_, _, rfl, rfl, q⟩
theorem opA_bxor : OpR X (binaryOp .BitXor) (rA X.K .bxor) := OpR.imp op_xor fun pins s σ H x y Q I ⟨A0, A, B0, B, dx, dy, d, r1, r2, e, ha, q⟩ => by
  cases dx <;> cases dy <;> first | (simp [op2] at e; done) | skip
  cases r1; cases r2; simp [op2] at e; subst e
  exact ⟨_, _, rfl, rfl, q⟩

/-! ### == and != -/
def rEq1 (K : PySem.W.Frag) (g : Bool → Bool) : R2 := fun x y H Q => ∃ A0 A B0 B dx dy b, RepT K H A0 A dx x ∧ RepT K H B0 B dy y ∧ eqD dx dy = .ok (.bool b) ∧ Q (.bl (g b)) H
theorem eqD_cases {dx dy d : D} (h : eqD dx dy = .ok d) : (∃ a b, dx = .int a ∧ dy = .int b ∧ d = .bool (a == b)) ∨ (∃ a b, dx = .bool a ∧ dy = .bool b ∧ d = .bool (a == b)) ∨ (∃ a b, dx = .str a ∧ dy = .str b ∧ d = .bool (a == b)) ∨
    (SeqAt.shaped dx = true ∧ SeqAt.shaped dy = true ∧ d = .bool (PyData.eqv dx dy)) := by
  unfold eqD at h
  split at h
  · cases h; exact .inl ⟨_, _, rfl, rfl, rfl⟩
  · cases h; exact .inr (.inl ⟨_, _, rfl, rfl, rfl⟩)
  · cases h; exact .inr (.inr (.inl ⟨_, _, rfl, rfl, rfl⟩))
  · split at h
    · rename_i hs
      cases h
      rw [Bool.and_eq_true] at hs
      exact .inr (.inr (.inr ⟨hs.1, hs.2, rfl⟩))
    · cases h
theorem opA_eq (hu : X.A.units + 64 < cLine) : OpR X (compareOp .Eq) (rA X.K .eq) := OpR.imp (op_eq.or (op_eqD hu)) fun pins s σ H x y Q I ⟨A0, A, B0, B, dx, dy, d, r1, r2, e, ha, q⟩ => by
  have e' : eqD dx dy = .ok d := e
  rcases eqD_cases e' with ⟨a, b, rfl, rfl, rfl⟩ | ⟨a, b, rfl, rfl, rfl⟩ | ⟨a, b, rfl, rfl, rfl⟩ | ⟨s1, s2, rfl⟩
  · cases r1; cases r2
    exact .inl ⟨rfl, by rw [dec_int]; exact q⟩
  · cases r1; cases r2
    exact .inl ⟨rfl, by rw [dec_bl]; exact q⟩
  · cases r1; cases r2
    exact .inl ⟨rfl, by rw [dec_str]; exact q⟩
  · exact .inr ⟨dx, dy, r1.dp (SeqAt.canLay_of_shaped s1), r2.dp (SeqAt.canLay_of_shaped s2), s1, s2, q⟩
theorem notR_ok {r : R D} {d : D} (h : notR r = .ok d) : ∃ b, r = .ok (.bool b) ∧ d = .bool (!b) := by
  unfold notR at h
  split at h
  · cases h; exact ⟨_, rfl, rfl⟩
  · cases h
  · rename_i h1 h2
    subst h
    exact absurd rfl (h2 d)
theorem opA_ne (hu : X.A.units + 64 < cLine) : OpR X (compareOp .NotEq) (rA X.K .ne) := OpR.imp (op_ne.or (op_neD hu)) fun pins s σ H x y Q I ⟨A0, A, B0, B, dx, dy, d, r1, r2, e, ha, q⟩ => by
  obtain ⟨b, e', rfl⟩ := notR_ok (show notR (eqD dx dy) = .ok d from e)
  rcases eqD_cases e' with ⟨a, b, rfl, rfl, h⟩ | ⟨a, b, rfl, rfl, h⟩ | ⟨a, b, rfl, rfl, h⟩ | ⟨s1, s2, h⟩
  · cases h; cases r1; cases r2
    exact .inl ⟨rfl, by rw [dec_int]; exact q⟩
  · cases h; cases r1; cases r2
    exact .inl ⟨rfl, by rw [dec_bl]; exact q⟩
  · cases h; cases r1; cases r2
    exact .inl ⟨rfl, by rw [dec_str]; exact q⟩
  · cases h
    exact .inr ⟨dx, dy, r1.dp (SeqAt.canLay_of_shaped s1), r2.dp (SeqAt.canLay_of_shaped s2), s1, s2, q⟩

/-! ### in -/
theorem inD_cases {x y d : D} (h : inD x y = .ok d) : ∃ ds, (y = .list ds ∨ y = .tuple ds) ∧ SeqAt.shaped x = true ∧ SeqAt.shaped y = true ∧ d = .bool (ds.any fun z => PyData.eqv z x) := by
  unfold inD at h
  split at h
  · rename_i ds hd
    split at h
    · rename_i hs
      cases h
      unfold shp at hs
      rw [Bool.and_eq_true] at hs
      refine ⟨ds, ?_, hs.1, hs.2, rfl⟩
      cases y <;> first | (cases hd; done) | skip
      · cases hd; exact .inl rfl
      · cases hd; exact .inr rfl
    · cases h
  · cases h
theorem roomIn {d : D} {ds : List D} (h : SeqAt.shaped d = true) (hu : X.A.units + 65 < cLine) : X.A.units + 1 + min (PyData.depthAll ds) d.depth < cLine := by
  have := SeqAt.depth_of_shaped h
  have h2 : min (PyData.depthAll ds) d.depth ≤ d.depth := Nat.min_le_right _ _
  omega
theorem opA_in (hu : X.A.units + 65 < cLine) : OpR X (compareOp .In) (rA X.K .inn) := by
  intro pins s σ H x y v u Q I rx ry ⟨A0, A, B0, B, dx, dy, d, r1, r2, e, ha, q⟩
  obtain ⟨ds, hy, s1, s2, rfl⟩ := inD_cases (show inD dx dy = .ok d from e)
  obtain ⟨as, q1⟩ := Dp.reads I _ x v (r1.dp (SeqAt.canLay_of_shaped s1)) rx
  obtain ⟨bs, q2⟩ := Dp.reads I _ y u (r2.dp (SeqAt.canLay_of_shaped s2)) ry
  rcases hy with rfl | rfl
  · exact SeqAt.in_list_reads q2 q1 (SeqAt.canLay_of_shaped s2) (SeqAt.canLay_of_shaped s1) (roomIn s1 hu) ⟨.bl _, H, I, rfl, q⟩
  · exact SeqAt.in_tuple_reads q2 q1 (SeqAt.canLay_of_shaped s2) (SeqAt.canLay_of_shaped s1) (roomIn s1 hu) ⟨.bl _, H, I, rfl, q⟩
theorem opA_nin (hu : X.A.units + 65 < cLine) : OpR X (compareOp .NotIn) (rA X.K .nin) := by
  intro pins s σ H x y v u Q I rx ry ⟨A0, A, B0, B, dx, dy, d, r1, r2, e, ha, q⟩
  obtain ⟨b, e', rfl⟩ := notR_ok (show notR (inD dx dy) = .ok d from e)
  obtain ⟨ds, hy, s1, s2, hb⟩ := inD_cases e'
  cases hb
  obtain ⟨as, q1⟩ := Dp.reads I _ x v (r1.dp (SeqAt.canLay_of_shaped s1)) rx
  obtain ⟨bs, q2⟩ := Dp.reads I _ y u (r2.dp (SeqAt.canLay_of_shaped s2)) ry
  rcases hy with rfl | rfl
  · exact SeqAt.notIn_list_reads q2 q1 (SeqAt.canLay_of_shaped s2) (SeqAt.canLay_of_shaped s1) (roomIn s1 hu) ⟨.bl _, H, I, rfl, q⟩
  · exact SeqAt.notIn_tuple_reads q2 q1 (SeqAt.canLay_of_shaped s2) (SeqAt.canLay_of_shaped s1) (roomIn s1 hu) ⟨.bl _, H, I, rfl, q⟩

/-! ### the order -/
theorem ordOk_of {x y : D} (h : ordOk x y = true) : W.alike x y = true ∧ x ≠ .none ∧ SeqAt.shaped x = true ∧ SeqAt.shaped y = true := by
  unfold ordOk shp at h
  simp only [Bool.and_eq_true] at h
  obtain ⟨⟨⟨h1, h2⟩, h3⟩, h4⟩ := h
  refine ⟨h1, ?_, h3, h4⟩
  rintro rfl
  simp at h2
theorem opA_lt (hu : X.A.units + 64 < cLine) : OpR X (compareOp .Lt) (rA X.K .lt) := by
  intro pins s σ H x y v u Q I rx ry ⟨A0, A, B0, B, dx, dy, d, r1, r2, e, ha, q⟩
  have e' : ltD dx dy = .ok d := e
  unfold ltD at e'
  split at e'
  · cases e'; cases r1; cases r2
    exact op_lt pins s σ H _ _ v u Q I rx ry ⟨_, _, rfl, rfl, q⟩
  · split at e'
    · rename_i h
      cases e'
      obtain ⟨h1, h2, h3, h4⟩ := ordOk_of h
      obtain ⟨as, q1⟩ := Dp.reads I _ x v (r1.dp (SeqAt.canLay_of_shaped h3)) rx
      obtain ⟨bs, q2⟩ := Dp.reads I _ y u (r2.dp (SeqAt.canLay_of_shaped h4)) ry
      exact PySem.W.lt_data q1 q2 h1 h2 (SeqAt.room_of_shaped h3 hu) ⟨.bl _, H, I, rfl, q⟩
    · cases e'
theorem opA_le (hu : X.A.units + 64 < cLine) : OpR X (compareOp .LtE) (rA X.K .le) := by
  intro pins s σ H x y v u Q I rx ry ⟨A0, A, B0, B, dx, dy, d, r1, r2, e, ha, q⟩
  have e' : leD dx dy = .ok d := e
  unfold leD at e'
  split at e'
  · cases e'; cases r1; cases r2
    exact op_le pins s σ H _ _ v u Q I rx ry ⟨_, _, rfl, rfl, q⟩
  · split at e'
    · rename_i h
      cases e'
      obtain ⟨h1, h2, h3, h4⟩ := ordOk_of h
      obtain ⟨as, q1⟩ := Dp.reads I _ x v (r1.dp (SeqAt.canLay_of_shaped h3)) rx
      obtain ⟨bs, q2⟩ := Dp.reads I _ y u (r2.dp (SeqAt.canLay_of_shaped h4)) ry
      exact PySem.W.le_data q1 q2 h1 h2 (SeqAt.room_of_shaped h3 hu) ⟨.bl _, H, I, rfl, q⟩
    · cases e'
theorem opA_gt (hu : X.A.units + 64 < cLine) : OpR X (compareOp .Gt) (rA X.K .gt) := by
  intro pins s σ H x y v u Q I rx ry ⟨A0, A, B0, B, dx, dy, d, r1, r2, e, ha, q⟩
  have e' : gtD dx dy = .ok d := e
  unfold gtD at e'
  split at e'
  · cases e'; cases r1; cases r2
    exact op_gt pins s σ H _ _ v u Q I rx ry ⟨_, _, rfl, rfl, q⟩
  · split at e'
    · rename_i h
      cases e'
      obtain ⟨h1, h2, h3, h4⟩ := ordOk_of h
      obtain ⟨as, q1⟩ := Dp.reads I _ x v (r1.dp (SeqAt.canLay_of_shaped h3)) rx
      obtain ⟨bs, q2⟩ := Dp.reads I _ y u (r2.dp (SeqAt.canLay_of_shaped h4)) ry
      exact PySem.W.gt_data q1 q2 h1 h2 (SeqAt.room_of_shaped h3 hu) ⟨.bl _, H, I, rfl, q⟩
    · cases e'
theorem opA_ge (hu : X.A.units + 64 < cLine) : OpR X (compareOp .GtE) (rA X.K .ge) := by
  intro pins s σ H x y v u Q I rx ry ⟨A0, A, B0, B, dx, dy, d, r1, r2, e, ha, q⟩
  have e' : geD dx dy = .ok d := e
  unfold geD at e'
  split at e'
  · cases e'; cases r1; cases r2
    exact op_ge pins s σ H _ _ v u Q I rx ry ⟨_, _, rfl, rfl, q⟩
  · split at e'
    · rename_i h
      cases e'
      obtain ⟨h1, h2, h3, h4⟩ := ordOk_of h
      obtain ⟨as, q1⟩ := Dp.reads I _ x v (r1.dp (SeqAt.canLay_of_shaped h3)) rx
      obtain ⟨bs, q2⟩ := Dp.reads I _ y u (r2.dp (SeqAt.canLay_of_shaped h4)) ry
      exact PySem.W.ge_data q1 q2 h1 h2 (SeqAt.room_of_shaped h3 hu) ⟨.bl _, H, I, rfl, q⟩
    · cases e'

/-! ### is -/
theorem repT_non {K : PySem.W.Frag} {H : Hp} {A0 A : Av} {d : D} {v : V} {b : Bool} (r : RepT K H A0 A d v) (h : b = true ↔ d = .none) : decide (v = .non) = b := by
  cases d with
  | none => cases r; rw [h.mpr rfl]; rfl
  | list _ => obtain ⟨a, vs, rfl, _⟩ := r; cases b; rfl; exact nomatch h.mp rfl
  | dict _ => obtain ⟨a, rfl, _⟩ := r; cases b; rfl; exact nomatch h.mp rfl
  | _ => cases r <;> (cases b; rfl; exact nomatch h.mp rfl)
theorem isD_cases {dx dy d : D} (h : isD dx dy = .ok d) : (dy = .none ∧ ∃ b : Bool, d = .bool b ∧ (b = true ↔ dx = .none)) ∨ (∃ a b, dx = .bool a ∧ dy = .bool b ∧ d = .bool (decide (a = b))) := by
  unfold isD at h
  split at h
  · cases h; exact .inl ⟨rfl, true, rfl, by simp⟩
  · cases h
  · rename_i x hx; cases h; refine .inl ⟨rfl, false, rfl, ?_⟩; simp; intro e; exact hx e
  · cases h; exact .inr ⟨_, _, rfl, rfl, rfl⟩
  · cases h
theorem opA_is : OpR X (compareOp .Is) (rA X.K .is_) := OpR.imp (op_isN.or op_is_bl) fun pins s σ H x y Q I ⟨A0, A, B0, B, dx, dy, d, r1, r2, e, ha, q⟩ => by
  rcases isD_cases (show isD dx dy = .ok d from e) with ⟨rfl, b, rfl, hb⟩ | ⟨a, b, rfl, rfl, rfl⟩
  · cases r2
    refine .inl ⟨rfl, ?_⟩
    rw [repT_non r1 hb]; exact q
  · cases r1; cases r2
    exact .inr ⟨_, _, rfl, rfl, q⟩
theorem opA_isnt : OpR X (compareOp .IsNot) (rA X.K .isnt) := OpR.imp (op_notN.or op_isnot_bl) fun pins s σ H x y Q I ⟨A0, A, B0, B, dx, dy, d, r1, r2, e, ha, q⟩ => by
  obtain ⟨c, e', rfl⟩ := notR_ok (show notR (isD dx dy) = .ok d from e)
  rcases isD_cases e' with ⟨rfl, b, hd, hb⟩ | ⟨a, b, rfl, rfl, hd⟩
  · cases r2; cases hd
    refine .inl ⟨rfl, ?_⟩
    rw [repT_non r1 hb]; exact q
  · cases r1; cases r2; cases hd
    exact .inr ⟨_, _, rfl, rfl, q⟩

/-! ### + -/
def rAdd1 (K : PySem.W.Frag) : R2 := fun x y H Q => ∃ A0 A B0 B C dx dy d, RepT K H A0 A dx x ∧ RepT K H B0 B dy y ∧ (∀ a, C a → A a) ∧ (∀ a, C a → B a) ∧ (∀ a, C a → H a ≠ none) ∧ op2 .add dx dy = .ok d ∧ Res K H C true d Q
theorem lim_eq : lim = sizeLine := sizeLine_eq.symm
/-- list + list, either a list that is read -/
def rCatL (K : PySem.W.Frag) : R2 := fun x y H Q => ∃ l b xs zs, x = .ref l ∧ y = .ref b ∧ SqL K H l xs ∧ SqL K H b zs ∧ xs.length + zs.length ≤ sizeLine ∧ ∀ p, H p = none → Q (.ref p) (upd H p (.lst (xs ++ zs)))
theorem rd_lst {pins : List (Addr × Obj)} {σ : L2.St} {H : Hp} {s : Shared} {l : Addr} {xs : List V} (I : Inv X pins σ H s) (h : SqL X.K H l xs) : xs.length ≤ sizeLine ∧ ∃ (its : List Value), Vals xs its ∧ xs.length = its.length ∧ s.heap.IsList l its.toArray := by
  obtain ⟨its, r, p, z⟩ := I.list h
  exact ⟨z, its, r, r.length, p.isList⟩
theorem op_catL : OpR X (binaryOp .Add) (rCatL X.K) := by
  intro pins s σ H x y v u Q I rx ry h
  obtain ⟨l, b, xs, zs, rfl, rfl, hH, hB, hz, q⟩ := h
  cases rx
  cases ry
  obtain ⟨z, its, n, r, hl⟩ := rd_lst I hH
  obtain ⟨z2, its2, n2, r2, hl2⟩ := rd_lst I hB
  obtain ⟨⟨cls, dd, data, sl⟩, ho, hc, m, hd⟩ := hl
  obtain ⟨⟨cls2, dd2, data2, sl2⟩, ho2, hc2, m2, hd2⟩ := hl2
  simp only at hc hd hc2 hd2
  subst hc hd hc2 hd2
  have ea : its.toArray ++ its2.toArray = (its ++ its2).toArray := by simp
  refine concat_meets ⟨_, ho, rfl⟩ ⟨_, ho2, rfl⟩ noFill_list_add seq_list_add PySem.F.slot_list_add PySem.F.entry_list_add (PySem.F.args_list_add_2 _ _) (list_addW l b its.toArray its2.toArray m m2 dd dd2 sl sl2 (by rw [List.size_toArray, List.size_toArray]; omega)) ⟨ho, ho2, ?_⟩
  rw [ea]
  exact ⟨.ref _, _, I.lnew (t' := s.toks) (n.append n2) (by rw [List.length_append]; omega), rfl, q _ I.fresh⟩
theorem opA_add : OpR X (binaryOp .Add) (rAdd1 X.K) := OpR.imp ((op_add.or op_add_str).or (op_catA.or op_catL)) fun pins s σ H x y Q I ⟨A0, A, B0, B, C, dx, dy, d, r1, r2, hA, hB, hd, e, q⟩ => by
  cases dx <;> cases dy <;> first | (simp [op2] at e; done) | skip
  · cases r1; cases r2; simp [op2] at e; subst e
    exact .inl (.inl ⟨_, _, rfl, rfl, q _ _ (Same.refl _) (.int _) fun _ => .of_na rfl⟩)
  · cases r1; cases r2
    simp only [op2] at e
    split at e
    · rename_i hz; cases e
      exact .inl (.inr ⟨_, _, rfl, rfl, by rw [← lim_eq]; exact hz, q _ _ (Same.refl _) (.str _) fun _ => .of_na rfl⟩)
    · cases e
  · rename_i xs ys
    simp only [op2] at e
    split at e
    · rename_i hz; cases e
      obtain ⟨a, vs, rfl, ha, ka⟩ := r1
      obtain ⟨b, us, rfl, hb, kb⟩ := r2
      refine .inr (.inr ⟨a, b, vs, us, rfl, rfl, ha.sql, hb.sql, by rw [← ka.length, ← kb.length, ← lim_eq]; exact hz, fun p hp => ?_⟩)
      obtain ⟨h1, h2⟩ := lst_new (A := C) hp hd ((ka.anti hA).append (kb.anti hB))
      exact q _ _ (same_upd hp) h1 fun _ => h2
    · cases e
  · rename_i xs ys
    simp only [op2] at e
    split at e
    · rename_i hz; cases e
      cases r1 with
      | @tup a vs _ ha ka =>
        cases r2 with
        | @tup b us _ hb kb =>
          refine .inr (.inl ⟨a, b, vs, us, rfl, rfl, ha, hb, by rw [← ka.length, ← kb.length, ← lim_eq]; exact hz, fun hv => ?_, fun hv hu => ?_, fun hv hu p hp => ?_⟩)
          · subst hv
            have : xs = [] := by have := ka.length; simpa using this
            subst this
            exact q _ _ (Same.refl _) (.tup hb (kb.anti hB)) fun _ => .of_na rfl
          · subst hu
            have : ys = [] := by have := kb.length; simpa using this
            subst this
            rw [List.append_nil] at q
            exact q _ _ (Same.refl _) (.tup ha (ka.anti hA)) fun _ => .of_na rfl
          · obtain ⟨h1, h2⟩ := tup_new (A := C) hp ((ka.anti hA).append (kb.anti hB))
            exact q _ _ (same_upd hp) h1 fun _ => h2
    · cases e

/-! ### a row so many times -/
def rRep1 (K : PySem.W.Frag) : R2 := fun x y H Q => ∃ A0 A B0 B C dx dy d, RepT K H A0 A dx x ∧ (∀ xs, dx = .list xs → ∃ a vs, x = .ref a ∧ H a = some (.lst vs)) ∧ RepT K H B0 B dy y ∧ (∀ a, C a → A a) ∧ (∀ a, C a → H a ≠ none) ∧ op2 .rep dx dy = .ok d ∧ Res K H C true d Q
theorem Reps.rep {K : PySem.W.Frag} {H : Hp} {A : Av} {ds : List D} {vs : List V} (h : Reps K H A ds vs) : ∀ n : Nat, Reps K H A (List.replicate n ds).flatten (List.replicate n vs).flatten
  | 0 => .nil
  | n + 1 => by
    simp only [List.replicate_succ, List.flatten_cons]
    exact h.append (h.rep n)
theorem opA_rep : OpR X (binaryOp .Mult) (rRep1 X.K) := by
  intro pins s σ H x y v u Q I rx ry ⟨A0, A, B0, B, C, dx, dy, d, r1, hf, r2, hA, hd, e, q⟩
  cases dx <;> cases dy <;> first | (simp [op2] at e; done) | skip
  · rename_i xs k
    simp only [op2] at e
    split at e
    · rename_i hz; cases e
      obtain ⟨a, vs, rfl, ha, ka⟩ := r1
      obtain ⟨a', us, ea, hH⟩ := hf xs rfl
      cases ea
      have hu : us = vs := I.list_inj (.inl (.inl hH)) ha.sql
      subst hu
      cases r2
      refine op_rep pins s σ H _ _ v u Q I rx ry ⟨a, k, us, rfl, rfl, hH, hz.1, hz.2.1, by rw [← ka.length, ← lim_eq]; exact hz.2.2, fun p hp => ?_⟩
      obtain ⟨h1, h2⟩ := lst_new (A := C) hp hd ((ka.anti hA).rep k.toNat)
      exact q _ _ (same_upd hp) h1 fun _ => h2
    · cases e
  · rename_i xs k
    simp only [op2] at e
    split at e
    · rename_i hz; cases e
      cases r1 with
      | @tup a vs _ ha ka =>
        cases r2
        refine op_repT pins s σ H _ _ v u Q I rx ry ⟨a, k, vs, rfl, rfl, ha, fun z => hz.1 ?_, hz.2.1, hz.2.2.1, by rw [← ka.length]; exact hz.2.2.2, fun p hp => ?_⟩
        · have := ka.length
          rw [z] at this
          simpa using this
        obtain ⟨h1, h2⟩ := tup_new (A := C) hp ((ka.anti hA).rep k.toNat)
        exact q _ _ (same_upd hp) h1 fun _ => h2
    · cases e

/-! ### items -/
def rIx1 (K : PySem.W.Frag) : R2 := fun x y H Q => ∃ A0 A B0 B dx dy d, RepT K H A0 A dx x ∧ RepT K H B0 B dy y ∧ op2 .idx dx dy = .ok d ∧ Res K H A false d Q
theorem atI_map {α β : Type} {f : α → β → Prop} {xs : List α} {ys : List β} {i : Int} {d : α} (hl : xs.length = ys.length) (hg : ∀ (j : Nat) (x : α), xs[j]? = some x → ∃ y : β, ys[j]? = some y ∧ f x y) (h : L2.atI xs i = some d) : ∃ v, L2.atI ys i = some v ∧ f d v := by
  unfold L2.atI at h ⊢
  rw [← hl]
  cases e : L2.ixN xs.length i with
  | none => rw [e] at h; cases h
  | some j =>
    rw [e] at h
    obtain ⟨y, h1, h2⟩ := hg j d h
    exact ⟨y, h1, h2⟩
theorem ixA : IxR X (rIx1 X.K) := by
  intro value slice pins s σ H x y v u Q I rx ry ⟨A0, A, B0, B, dx, dy, d, r1, r2, e, q⟩ hsub
  refine ix_seq value slice pins s σ H x y v u Q I rx ry ?_ hsub
  cases dx <;> cases dy <;> first | (simp [op2] at e; done) | skip
  · rename_i xs i
    cases r2
    obtain ⟨a, vs, rfl, ha, ka⟩ := r1
    simp only [op2] at e
    split at e
    · rename_i d' h; cases e
      obtain ⟨w, h1, h2⟩ := atI_map ka.length (fun j x h => ka.get h) h
      exact .inl ⟨a, vs, i, w, rfl, rfl, ha.sql, h1, q _ _ (Same.refl _) h2 fun z => by cases z⟩
    · cases e
  · rename_i xs i
    cases r2
    cases r1 with
    | @tup a vs _ ha ka =>
      simp only [op2] at e
      split at e
      · rename_i d' h; cases e
        obtain ⟨w, h1, h2⟩ := atI_map ka.length (fun j x h => ka.get h) h
        exact .inr (.inl ⟨a, vs, i, w, rfl, rfl, ha, h1, q _ _ (Same.refl _) h2 fun z => by cases z⟩)
      · cases e
end
end L3

set_option Elab.async false
set_option linter.all false
set_option maxRecDepth 100000
set_option maxHeartbeats 1000000
/-! calls of built-ins on data -/
namespace L3
open PySem PySem.Spec PyProof.Rows L2

theorem CallR.imp {X : Cx} {f : Value} {r r' : List V → Hp → VK → Prop} (h : CallR X f r) (hi : ∀ pins s σ H xs Q, Inv X pins σ H s → r' xs H Q → r xs H Q) : CallR X f r' :=
  fun pins s σ H xs us Q I rs q => h pins s σ H xs us Q I rs (hi pins s σ H xs Q I q)
theorem UnR.imp {X : Cx} {f : Value → Sem Value} {r r' : V → Hp → VK → Prop} (h : UnR X f r) (hi : ∀ pins s σ H x Q, Inv X pins σ H s → r' x H Q → r x H Q) : UnR X f r' :=
  fun pins s σ H x v Q I rs q => h pins s σ H x v Q I rs (hi pins s σ H x Q I q)
/-- a call of one argument -/
def rC1 (K : PySem.W.Frag) (o : U1) (fr : Bool) : List V → Hp → VK → Prop := fun xs H Q => ∃ A0 A C dx x d, xs = [x] ∧ RepT K H A0 A dx x ∧ (∀ a, C a → A a) ∧ (∀ a, C a → H a ≠ none) ∧ op1 o dx = .ok d ∧ Res K H C fr d Q
section
variable {X : Cx}
theorem callA_len : CallR X (.builtin "len") (rC1 X.K .len false) := CallR.imp (call_len.or call_lenD) fun pins s σ H xs Q I ⟨A0, A, C, dx, x, d, ex, r, hC, hd, e, q⟩ => by
  subst ex
  cases dx <;> first | (simp [op1] at e; done) | skip
  · cases r
    simp only [op1] at e
    split at e
    · rename_i h; cases e
      exact .inl ⟨_, _, rfl, ⟨by rw [← lim_eq]; exact h, rfl⟩, q _ _ (Same.refl _) (.int _) fun z => by cases z⟩
    · cases e
  · obtain ⟨a, vs, rfl, ha, ka⟩ := r
    cases e
    exact .inl ⟨_, vs.length, rfl, .inl ⟨vs, ha.sql, rfl⟩, by rw [← ka.length]; exact q _ _ (Same.refl _) (.int _) fun z => by cases z⟩
  · cases r with
    | @tup a vs _ ha ka =>
      cases e
      exact .inl ⟨_, vs.length, rfl, .inr ⟨vs, ha, rfl⟩, by rw [← ka.length]; exact q _ _ (Same.refl _) (.int _) fun z => by cases z⟩
theorem callA_tuple : CallR X (.type "tuple") (rC1 X.K .tupleOf false) := CallR.imp call_tuple_of fun pins s σ H xs Q I ⟨A0, A, C, dx, x, d, ex, r, hC, hd, e, q⟩ => by
  subst ex
  cases dx <;> first | (simp [op1] at e; done) | skip
  · obtain ⟨a, vs, rfl, ha, ka⟩ := r
    cases e
    refine ⟨a, vs, rfl, .inl ⟨ha.sql, fun l hl => ?_⟩⟩
    exact q _ _ (same_upd hl) (tup_new hl (ka.anti hC)).1 fun z => by cases z
  · cases r with
    | @tup a vs _ ha ka =>
      cases e
      exact ⟨a, vs, rfl, .inr ⟨ha, q _ _ (Same.refl _) (.tup ha (ka.anti hC)) fun z => by cases z⟩⟩
theorem callA_list : CallR X (.type "list") (rC1 X.K .listOf true) := CallR.imp call_list_of fun pins s σ H xs Q I ⟨A0, A, C, dx, x, d, ex, r, hC, hd, e, q⟩ => by
  subst ex
  cases dx <;> first | (simp [op1] at e; done) | skip
  · obtain ⟨a, vs, rfl, ha, ka⟩ := r
    cases e
    refine ⟨a, vs, rfl, .inl ha.sql, fun l hl => ?_⟩
    obtain ⟨h1, h2⟩ := lst_new hl hd (ka.anti hC)
    exact q _ _ (same_upd hl) h1 fun _ => h2
  · cases r with
    | @tup a vs _ ha ka =>
      cases e
      refine ⟨a, vs, rfl, .inr ha, fun l hl => ?_⟩
      obtain ⟨h1, h2⟩ := lst_new hl hd (ka.anti hC)
      exact q _ _ (same_upd hl) h1 fun _ => h2
theorem bools_of {K : PySem.W.Frag} {H : Hp} {A : Av} : ∀ {ds : List D} {vs : List V} {bs : List Bool}, Reps K H A ds vs → boolsOf ds = some bs → vs = bs.map V.bl
  | [], _, _, h, e => by cases h; simp [boolsOf] at e; subst e; rfl
  | d :: ds, _, _, h, e => by
    cases d <;> first | (simp [boolsOf] at e; done) | skip
    cases h with
    | cons h1 h2 =>
      cases h1
      rename_i b
      cases e2 : boolsOf ds with
      | none => simp [boolsOf, e2] at e
      | some bs' =>
        simp [boolsOf, e2] at e
        subst e
        rw [bools_of h2 e2]; rfl
theorem ints_of {K : PySem.W.Frag} {H : Hp} {A : Av} : ∀ {ds : List D} {vs : List V} {bs : List Int}, Reps K H A ds vs → intsOf ds = some bs → vs = bs.map V.int
  | [], _, _, h, e => by cases h; simp [intsOf] at e; subst e; rfl
  | d :: ds, _, _, h, e => by
    cases d <;> first | (simp [intsOf] at e; done) | skip
    cases h with
    | cons h1 h2 =>
      cases h1
      rename_i b
      cases e2 : intsOf ds with
      | none => simp [intsOf, e2] at e
      | some bs' =>
        simp [intsOf, e2] at e
        subst e
        rw [ints_of h2 e2]; rfl
theorem callA_all (hc : X.calm = true) : CallR X (.builtin "all") (rC1 X.K .all false) := CallR.imp (cr_all hc) fun pins s σ H xs Q I ⟨A0, A, C, dx, x, d, ex, r, hC, hd, e, q⟩ => by
  subst ex
  cases dx <;> first | (simp [op1] at e; done) | skip
  obtain ⟨a, vs, rfl, ha, ka⟩ := r
  simp only [op1] at e
  split at e
  · rename_i bs hb; cases e
    have := bools_of ka hb
    subst this
    exact ⟨a, bs, rfl, ha.sql, q _ _ (Same.refl _) (.bl _) fun z => by cases z⟩
  · cases e
theorem callA_any (hc : X.calm = true) : CallR X (.builtin "any") (rC1 X.K .any false) := CallR.imp (cr_any hc) fun pins s σ H xs Q I ⟨A0, A, C, dx, x, d, ex, r, hC, hd, e, q⟩ => by
  subst ex
  cases dx <;> first | (simp [op1] at e; done) | skip
  obtain ⟨a, vs, rfl, ha, ka⟩ := r
  simp only [op1] at e
  split at e
  · rename_i bs hb; cases e
    have := bools_of ka hb
    subst this
    exact ⟨a, bs, rfl, ha.sql, q _ _ (Same.refl _) (.bl _) fun z => by cases z⟩
  · cases e
theorem callA_sum (hc : X.calm = true) : CallR X (.builtin "sum") (rC1 X.K .sum false) := CallR.imp (cr_sum hc) fun pins s σ H xs Q I ⟨A0, A, C, dx, x, d, ex, r, hC, hd, e, q⟩ => by
  subst ex
  cases dx <;> first | (simp [op1] at e; done) | skip
  obtain ⟨a, vs, rfl, ha, ka⟩ := r
  simp only [op1] at e
  split at e
  · rename_i bs hb; cases e
    have := ints_of ka hb
    subst this
    exact ⟨a, bs, rfl, ha.sql, q _ _ (Same.refl _) (.int _) fun z => by cases z⟩
  · cases e
theorem callA_int : CallR X (.type "int") (rC1 X.K .intOf false) := CallR.imp call_int1 fun pins s σ H xs Q I ⟨A0, A, C, dx, x, d, ex, r, hC, hd, e, q⟩ => by
  subst ex
  cases dx <;> first | (simp [op1] at e; done) | skip
  · cases r; simp [op1] at e; subst e
    exact .inr ⟨_, rfl, q _ _ (Same.refl _) (.int _) fun z => by cases z⟩
  · cases r; simp [op1] at e; subst e
    exact .inl ⟨_, rfl, q _ _ (Same.refl _) (.int _) fun z => by cases z⟩
theorem callA_str : CallR X (.type "str") (rC1 X.K .strOf false) := CallR.imp call_str_int fun pins s σ H xs Q I ⟨A0, A, C, dx, x, d, ex, r, hC, hd, e, q⟩ => by
  subst ex
  cases dx <;> first | (simp [op1] at e; done) | skip
  rename_i i
  cases r
  simp only [op1] at e
  split at e
  · rename_i h; cases e
    refine ⟨i, rfl, ?_, q _ _ (Same.refl _) (.str _) fun z => by cases z⟩
    by_cases h0 : i.natAbs = 0
    · rw [h0]; decide
    · have := (Nat.log2_lt h0).mpr h
      omega
  · cases e
/-- min(a, b), max(a, b) of whole numbers -/
def rC2 (K : PySem.W.Frag) (o : B2) : List V → Hp → VK → Prop := fun xs H Q => ∃ A0 A B0 B dx dy x y d, xs = [x, y] ∧ RepT K H A0 A dx x ∧ RepT K H B0 B dy y ∧ op2 o dx dy = .ok d ∧ atom d = true ∧ Q (toV d) H
theorem callA_max2 (hc : X.calm = true) : CallR X (.builtin "max") (rC2 X.K .max2) := CallR.imp (call_max2 hc) fun pins s σ H xs Q I ⟨A0, A, B0, B, dx, dy, x, y, d, ex, r1, r2, e, ha, q⟩ => by
  subst ex
  cases dx <;> cases dy <;> first | (simp [op2] at e; done) | skip
  cases r1; cases r2; simp only [op2] at e; cases e
  exact ⟨_, _, rfl, q⟩
/-- -a -/
def rU1 (K : PySem.W.Frag) (o : U1) : V → Hp → VK → Prop := fun x H Q => ∃ A0 A dx d, RepT K H A0 A dx x ∧ op1 o dx = .ok d ∧ atom d = true ∧ Q (toV d) H
theorem unA_neg : UnR X (unaryOp .USub) (rU1 X.K .neg) := UnR.imp un_neg fun pins s σ H x Q I ⟨A0, A, dx, d, r, e, ha, q⟩ => by
  cases dx <;> first | (simp [op1] at e; done) | skip
  cases r; simp [op1] at e; subst e
  exact ⟨_, rfl, q⟩

/-! ### isinstance -/
def tyName : Ty → String
  | .int => "int" | .bool => "bool" | .str => "str" | .tuple => "tuple" | .list => "list" | .dict => "dict"
def dTy : D → String
  | .none => "NoneType" | .bool _ => "bool" | .int _ => "int" | .str _ => "str" | .list _ => "list" | .tuple _ => "tuple" | .dict _ => "dict"
theorem repT_ty {K : PySem.W.Frag} {H : Hp} {A0 A : Av} {d : D} {v : V} (r : RepT K H A0 A d v) : TyX K H v (.type (dTy d)) := by
  cases d with
  | none => cases r; exact .base .non
  | bool b => cases r; exact .base (.bl b)
  | int b => cases r; exact .base (.int b)
  | str b => cases r; exact .base (.str b)
  | list ds =>
    obtain ⟨a, vs, rfl, ⟨_, h | ⟨o, h⟩⟩ | ⟨o, its, n, h, hc, _⟩, _⟩ := r
    · exact .base (.lst h)
    · exact .base (.frz h)
    · exact .kList h hc
  | tuple ds =>
    cases r with
    | tup h _ =>
      rcases h with (h | ⟨o, h⟩) | ⟨o, its, n, h, hc, _⟩
      · exact .base (.tup h)
      · exact .fTuple h
      · exact .kTuple h hc
  | dict kvs =>
    obtain ⟨a, rfl, _, h, _⟩ := r
    exact .base (.dK h)
def isiN (n : String) : Ty → Bool
  | .int => n == "int" || n == "bool" | .bool => n == "bool" | .str => n == "str" | .tuple => n == "tuple" | .list => n == "list" | .dict => n == "dict"
theorem isiN_eq (d : D) (t : Ty) : isiD d t = isiN (dTy d) t := by
  cases d <;> cases t <;> rfl
theorem kit_names : ∀ n ∈ ["NoneType", "bool", "int", "str", "list", "tuple", "dict"], ∀ t ∈ [Ty.int, .bool, .str, .tuple, .list, .dict], kitB n (tyName t) = some (isiN n t) := by decide +kernel
theorem kit_all (K : PySem.W.Frag) (d : D) (t : Ty) : PySem.W.kitOne K (.type (dTy d)) (.type (tyName t)) = some (isiD d t) := by
  rw [isiN_eq]
  exact kit_ty (kit_names _ (by cases d <;> simp [dTy]) t (by cases t <;> simp))
def rIsiD (K : PySem.W.Frag) (t : Ty) : List V → Hp → VK → Prop := fun xs H Q => ∃ A0 A dx x, xs = [x, .ty (tyName t)] ∧ RepT K H A0 A dx x ∧ Q (.bl (isiD dx t)) H
theorem callA_isi (t : Ty) : CallR X (.builtin "isinstance") (rIsiD X.K t) := CallR.imp call_isi fun pins s σ H xs Q I ⟨A0, A, dx, x, ex, r, q⟩ => by
  subst ex
  exact ⟨x, .ty (tyName t), .type (dTy dx), .type (tyName t), isiD dx t, rfl, .ty _, repT_ty r, kit_all X.K dx t, q⟩

/-! ### slices -/
def rSlD (K : PySem.W.Frag) : V → Option Int → Option Int → Hp → VK → Prop := fun x lo hi H Q => ∃ A0 A C dx d, RepT K H A0 A dx x ∧ (∀ a, C a → A a) ∧ (∀ a, C a → H a ≠ none) ∧
  ((∃ xs, dx = .list xs ∧ d = .list (cutD xs lo hi)) ∨ (∃ xs, dx = .tuple xs ∧ d = .tuple (cutD xs lo hi))) ∧ Res K H C true d Q
theorem SlR.imp {r r' : V → Option Int → Option Int → Hp → VK → Prop} (h : SlR X r) (hi : ∀ pins s σ H x lo hi Q, Inv X pins σ H s → r' x lo hi H Q → r x lo hi H Q) : SlR X r' :=
  fun pins s σ H x v vl vu lo hi' sl Q I rx hs pl pu q => h pins s σ H x v vl vu lo hi' sl Q I rx hs pl pu (hi pins s σ H x lo hi' Q I q)
theorem sIx_le' (n d : Nat) (hd : d ≤ n) (o : Option Int) : HT.sIx n d o ≤ n := HT.sIx_le n d hd o
theorem cut_whole {α : Type} {xs : List α} {lo hi : Option Int} (h : HT.sIx xs.length 0 lo = 0 ∧ HT.sIx xs.length xs.length hi = xs.length) : (xs.drop (HT.sIx xs.length 0 lo)).take (HT.sIx xs.length xs.length hi - HT.sIx xs.length 0 lo) = xs := by
  rw [h.1, h.2]; simp
theorem cut_reps {K : PySem.W.Frag} {H : Hp} {A : Av} {ds : List D} {vs : List V} {lo hi : Option Int} (h : Reps K H A ds vs) : Reps K H A (cutD ds lo hi) (cutV vs lo hi) := by
  unfold cutD cutV
  rw [h.length]
  exact (h.drop _).take _
theorem slA : SlR X (rSlD X.K) := SlR.imp (sl_list.or sl_tupA) fun pins s σ H x lo hi Q I ⟨A0, A, C, dx, d, r, hC, hd, e, q⟩ => by
  rcases e with ⟨xs, rfl, rfl⟩ | ⟨xs, rfl, rfl⟩
  · obtain ⟨a, vs, rfl, ha, ka⟩ := r
    refine .inl ⟨a, vs, rfl, ha.sql, fun p hp => ?_⟩
    obtain ⟨h1, h2⟩ := lst_new hp hd (cut_reps (lo := lo) (hi := hi) (ka.anti hC))
    exact q _ _ (same_upd hp) h1 fun _ => h2
  · cases r with
    | @tup a vs _ ha ka =>
      refine .inr ⟨a, vs, rfl, ha, fun hw => ?_, fun hw p hp => ?_⟩
      · have : cutD xs lo hi = xs := cut_whole (by rw [ka.length]; exact hw)
        rw [this] at q
        exact q _ _ (Same.refl _) (.tup ha (ka.anti hC)) fun _ => .of_na rfl
      · obtain ⟨h1, h2⟩ := tup_new (A := C) hp (cut_reps (lo := lo) (hi := hi) (ka.anti hC))
        exact q _ _ (same_upd hp) h1 fun _ => h2

/-! ### the greatest, the least of whole numbers -/
theorem intsOf_some : ∀ {xs : List D} {ns : List Int}, intsOf xs = some ns → xs = ns.map .int
  | [], _, h => by cases h; rfl
  | d :: xs, ns, h => by
    cases d <;> first | (cases h; done) | skip
    rename_i i
    have h' : (intsOf xs).map (i :: ·) = some ns := h
    cases hq : intsOf xs with
    | none => rw [hq] at h'; cases h'
    | some ms =>
      rw [hq] at h'
      cases h'
      rw [intsOf_some hq]; rfl
theorem ints_alike (ns : List Int) : PySem.W.AlikeAll (ns.map .int) := by
  refine ⟨fun x hx y hy => ?_, fun x hx => ?_⟩
  · obtain ⟨a, _, rfl⟩ := List.mem_map.mp hx
    obtain ⟨b, _, rfl⟩ := List.mem_map.mp hy
    rfl
  · obtain ⟨a, _, rfl⟩ := List.mem_map.mp hx
    simp
theorem ints_lay : ∀ ns : List Int, PyData.canLayAll0 (ns.map .int) = true
  | [] => rfl
  | n :: ns => by
    show (PyData.canLay0 (.int n) && PyData.canLayAll0 (ns.map .int)) = true
    rw [ints_lay ns]; rfl
theorem reads_int {h : Heap} {v : Value} {i : Int} {as : List Addr} (r : Reads h v (.int i) as) : RelV (.int i) v := by
  cases r; exact ⟨_, rfl⟩
/-- what both of them say -/
def bestI (mx : Bool) : List Int → Option Int
  | [] => none
  | n :: ns => some (if mx then ns.foldl max n else ns.foldl min n)
theorem maxL_cases {d x : D} (h : op1 .maxL x = .ok d) : ∃ (n : Int) (ns : List Int), (x = .list (PyData.int n :: ns.map PyData.int) ∨ x = .tuple (PyData.int n :: ns.map PyData.int)) ∧ d = .int (ns.foldl max n) := by
  unfold op1 at h
  cases x <;> first | (cases h; done) | skip
  all_goals
    dsimp only at h
    split at h
    · rename_i n ns hq
      cases h
      have := intsOf_some hq
      subst this
      first | exact ⟨n, ns, .inl rfl, rfl⟩ | exact ⟨n, ns, .inr rfl, rfl⟩
    · cases h
theorem minL_cases {d x : D} (h : op1 .minL x = .ok d) : ∃ (n : Int) (ns : List Int), (x = .list (PyData.int n :: ns.map PyData.int) ∨ x = .tuple (PyData.int n :: ns.map PyData.int)) ∧ d = .int (ns.foldl min n) := by
  unfold op1 at h
  cases x <;> first | (cases h; done) | skip
  all_goals
    dsimp only at h
    split at h
    · rename_i n ns hq
      cases h
      have := intsOf_some hq
      subst this
      first | exact ⟨n, ns, .inl rfl, rfl⟩ | exact ⟨n, ns, .inr rfl, rfl⟩
    · cases h
theorem callA_maxL (hc : X.calm = true) (hu : X.A.units + 80 < cLine) : CallR X (.builtin "max") (rC1 X.K .maxL false) := by
  intro pins s σ H vs us Q I r ⟨A0, A, C, dx, x, d, ex, rx, hC, hd, e, q⟩
  subst ex
  obtain ⟨n, ns, hx, rfl⟩ := maxL_cases e
  have hl : PyData.canLayAll0 (PyData.int n :: ns.map .int) = true := ints_lay (n :: ns)
  have hdp : PyData.depthAll (PyData.int n :: ns.map .int) = 0 := PySem.W.depth_ints (n :: ns)
  rcases hx with rfl | rfl
  · obtain ⟨a, ws, rfl, ha, ka⟩ := rx
    obtain ⟨as, q2⟩ := Dp.reads I (.list (PyData.int n :: ns.map .int)) (.ref a) (.ref a) (RepT.dp (A0 := A0) (A := A) ⟨a, ws, rfl, ha, ka⟩ hl) rfl
    rw [Vals.ref1 r]
    cases q2 with
    | @list _ o its m _ as' h1 h2 h3 h4 =>
      refine PySem.W.max_list_data (I.ok.hd hc) ⟨o, h1, h2, _, h3⟩ h4 (ints_alike (n :: ns)) (by rw [hdp]; omega) fun i v h' tk bs _ hr hk => ?_
      rw [PySem.W.maxD_ints] at hr
      exact ⟨.int _, H, I.kept hk, reads_int hr, q _ _ (Same.refl _) (.int _) fun z => by cases z⟩
  · cases rx with
    | @tup a ws _ ha ka =>
      obtain ⟨as, q2⟩ := Dp.reads I (.tuple (PyData.int n :: ns.map .int)) (.ref a) (.ref a) (RepT.dp (A0 := A0) (A := A) (Rep.tup ha ka) hl) rfl
      rw [Vals.ref1 r]
      cases q2 with
      | @tuple _ o its m _ as' h1 h2 h3 h4 =>
        refine PySem.W.max_tuple_data (I.ok.hd hc) ⟨o, h1, h2, _, h3⟩ h4 (ints_alike (n :: ns)) (by rw [hdp]; omega) fun i v h' tk bs _ hr hk => ?_
        rw [PySem.W.maxD_ints] at hr
        exact ⟨.int _, H, I.kept hk, reads_int hr, q _ _ (Same.refl _) (.int _) fun z => by cases z⟩
theorem callA_minL (hc : X.calm = true) (hu : X.A.units + 80 < cLine) : CallR X (.builtin "min") (rC1 X.K .minL false) := by
  intro pins s σ H vs us Q I r ⟨A0, A, C, dx, x, d, ex, rx, hC, hd, e, q⟩
  subst ex
  obtain ⟨n, ns, hx, rfl⟩ := minL_cases e
  have hl : PyData.canLayAll0 (PyData.int n :: ns.map .int) = true := ints_lay (n :: ns)
  have hdp : PyData.depthAll (PyData.int n :: ns.map .int) = 0 := PySem.W.depth_ints (n :: ns)
  rcases hx with rfl | rfl
  · obtain ⟨a, ws, rfl, ha, ka⟩ := rx
    obtain ⟨as, q2⟩ := Dp.reads I (.list (PyData.int n :: ns.map .int)) (.ref a) (.ref a) (RepT.dp (A0 := A0) (A := A) ⟨a, ws, rfl, ha, ka⟩ hl) rfl
    rw [Vals.ref1 r]
    cases q2 with
    | @list _ o its m _ as' h1 h2 h3 h4 =>
      refine PySem.W.min_list_data (I.ok.hd hc) ⟨o, h1, h2, _, h3⟩ h4 (ints_alike (n :: ns)) (by rw [hdp]; omega) fun i v h' tk bs _ hr hk => ?_
      rw [PySem.W.minD_ints] at hr
      exact ⟨.int _, H, I.kept hk, reads_int hr, q _ _ (Same.refl _) (.int _) fun z => by cases z⟩
  · cases rx with
    | @tup a ws _ ha ka =>
      obtain ⟨as, q2⟩ := Dp.reads I (.tuple (PyData.int n :: ns.map .int)) (.ref a) (.ref a) (RepT.dp (A0 := A0) (A := A) (Rep.tup ha ka) hl) rfl
      rw [Vals.ref1 r]
      cases q2 with
      | @tuple _ o its m _ as' h1 h2 h3 h4 =>
        refine PySem.W.min_tuple_data (I.ok.hd hc) ⟨o, h1, h2, _, h3⟩ h4 (ints_alike (n :: ns)) (by rw [hdp]; omega) fun i v h' tk bs _ hr hk => ?_
        rw [PySem.W.minD_ints] at hr
        exact ⟨.int _, H, I.kept hk, reads_int hr, q _ _ (Same.refl _) (.int _) fun z => by cases z⟩

/-! ### sorted(set(..)) of pairs -/
theorem pairOf_some {d : D} {p : Int × Int} (h : pairOf d = some p) : d = prD p ∧ (0 ≤ p.1 ∧ p.1 < 64) ∧ 0 ≤ p.2 ∧ p.2 < 64 := by
  unfold pairOf at h
  split at h
  · split at h
    · rename_i hb; cases h; exact ⟨rfl, ⟨hb.1, hb.2.1⟩, hb.2.2⟩
    · cases h
  · cases h
theorem pairsOf_some : ∀ {xs : List D} {ps : List (Int × Int)}, pairsOf xs = some ps → xs = ps.map prD ∧ ∀ p, p ∈ ps → (0 ≤ p.1 ∧ p.1 < 64) ∧ 0 ≤ p.2 ∧ p.2 < 64
  | [], ps, h => by cases h; exact ⟨rfl, fun p hp => by cases hp⟩
  | d :: xs, ps, h => by
    unfold pairsOf at h
    split at h
    · rename_i p ps' h1 h2
      cases h
      obtain ⟨rfl, hb⟩ := pairOf_some h1
      obtain ⟨rfl, hr⟩ := pairsOf_some h2
      exact ⟨rfl, fun q hq => by
        rcases List.mem_cons.mp hq with rfl | hq
        · exact hb
        · exact hr q hq⟩
    · cases h
theorem mem_insP {p q : Int × Int} (hp : (0 ≤ p.1 ∧ p.1 < 64) ∧ 0 ≤ p.2 ∧ p.2 < 64) : ∀ {l : List (Int × Int)}, (∀ q, q ∈ l → (0 ≤ q.1 ∧ q.1 < 64) ∧ 0 ≤ q.2 ∧ q.2 < 64) → (q ∈ insP p l ↔ q = p ∨ q ∈ l)
  | [], _ => by simp [insP]
  | r :: l, hl => by
    unfold insP
    split
    · simp
    · split
      · rename_i h1 h2
        have hr := hl r List.mem_cons_self
        have : p = r := by
          unfold codeP at h2
          have e1 : p.1 = r.1 := by omega
          have e2 : p.2 = r.2 := by omega
          exact Prod.ext e1 e2
        subst this
        simp
      · rw [List.mem_cons, mem_insP hp fun q hq => hl q (List.mem_cons_of_mem _ hq), List.mem_cons]
        constructor
        · rintro (h | h | h)
          · exact .inr (.inl h)
          · exact .inl h
          · exact .inr (.inr h)
        · rintro (h | h | h)
          · exact .inr (.inl h)
          · exact .inl h
          · exact .inr (.inr h)
abbrev PosP (p : Int × Int) : Prop := (0 ≤ p.1 ∧ p.1 < 64) ∧ 0 ≤ p.2 ∧ p.2 < 64
theorem mem_ssP {q : Int × Int} : ∀ {ps : List (Int × Int)}, (∀ p, p ∈ ps → PosP p) → (q ∈ ssP ps ↔ q ∈ ps)
  | [], _ => by simp [ssP]
  | p :: ps, h => by
    have ih := fun q => mem_ssP (q := q) (ps := ps) fun p hp => h p (List.mem_cons_of_mem _ hp)
    show q ∈ insP p (ssP ps) ↔ _
    rw [mem_insP (h p List.mem_cons_self) fun q hq => h q (List.mem_cons_of_mem _ ((ih q).mp hq)), ih, List.mem_cons]
theorem insP_sorted (p : Int × Int) : ∀ {l : List (Int × Int)}, l.Pairwise (fun a b => codeP a < codeP b) → (insP p l).Pairwise (fun a b => codeP a < codeP b) ∧ ∀ c, (∀ q, q ∈ l → c < codeP q) → c < codeP p → ∀ q, q ∈ insP p l → c < codeP q
  | [], _ => ⟨List.pairwise_singleton _ _, fun c _ hp q hq => by
      have : q = p := by simpa [insP] using hq
      rw [this]; exact hp⟩
  | r :: l, h => by
    obtain ⟨h1, h2⟩ := List.pairwise_cons.mp h
    obtain ⟨i1, i2⟩ := insP_sorted p h2
    unfold insP
    split
    · rename_i hc
      refine ⟨List.pairwise_cons.mpr ⟨fun q hq => ?_, h⟩, fun c hl hp q hq => ?_⟩
      · rcases List.mem_cons.mp hq with rfl | hq
        · exact hc
        · exact Int.lt_trans hc (h1 q hq)
      · rcases List.mem_cons.mp hq with rfl | hq
        · exact hp
        · exact hl q hq
    · split
      · exact ⟨h, fun c hl hp q hq => hl q hq⟩
      · rename_i hc hc2
        refine ⟨List.pairwise_cons.mpr ⟨fun q hq => i2 _ h1 (by omega) q hq, i1⟩, fun c hl hp q hq => ?_⟩
        rcases List.mem_cons.mp hq with rfl | hq
        · exact hl _ List.mem_cons_self
        · exact i2 c (fun q hq => hl q (List.mem_cons_of_mem _ hq)) hp q hq
theorem ssP_sorted : ∀ ps : List (Int × Int), (ssP ps).Pairwise fun a b => codeP a < codeP b
  | [] => List.Pairwise.nil
  | p :: ps => (insP_sorted p (ssP_sorted ps)).1
/-- a row by rising codes is told by its members -/
theorem sorted_unique : ∀ {l m : List (Int × Int)}, l.Pairwise (fun a b => codeP a < codeP b) → m.Pairwise (fun a b => codeP a < codeP b) → (∀ q, q ∈ l ↔ q ∈ m) → l = m
  | [], [], _, _, _ => rfl
  | [], b :: m, _, _, h => absurd ((h b).mpr List.mem_cons_self) (by simp)
  | a :: l, [], _, _, h => absurd ((h a).mp List.mem_cons_self) (by simp)
  | a :: l, b :: m, hl, hm, h => by
    obtain ⟨l1, l2⟩ := List.pairwise_cons.mp hl
    obtain ⟨m1, m2⟩ := List.pairwise_cons.mp hm
    have hab : a = b := by
      rcases List.mem_cons.mp ((h a).mp List.mem_cons_self) with e | e
      · exact e
      · rcases List.mem_cons.mp ((h b).mpr List.mem_cons_self) with e2 | e2
        · exact e2.symm
        · have := m1 a e
          have := l1 b e2
          omega
    subst hab
    congr 1
    refine sorted_unique l2 m2 fun q => ⟨fun hq => ?_, fun hq => ?_⟩
    · rcases List.mem_cons.mp ((h q).mp (List.mem_cons_of_mem _ hq)) with e | e
      · subst e; exact absurd (l1 q hq) (by omega)
      · exact e
    · rcases List.mem_cons.mp ((h q).mpr (List.mem_cons_of_mem _ hq)) with e | e
      · subst e; exact absurd (m1 q hq) (by omega)
      · exact e
theorem reps_prs {K : PySem.W.Frag} {H : Hp} {A : Av} : ∀ {ps : List (Int × Int)} {vs : List V}, Reps K H A (ps.map prD) vs → ∃ ks : List (Addr × List Int), vs = ks.map (fun p => V.ref p.1) ∧ ks.map (·.2) = ps.map (fun p => [p.1, p.2]) ∧ ∀ p, p ∈ ks → SqT K H p.1 (p.2.map V.int)
  | [], vs, h => by cases h; exact ⟨[], rfl, rfl, fun p hp => by cases hp⟩
  | p :: ps, vs, h => by
    cases h with
    | cons h1 h2 =>
      obtain ⟨ks, e1, e2, e3⟩ := reps_prs h2
      cases h1 with
      | @tup a ws _ ha ka =>
        have : ws = [V.int p.1, V.int p.2] := by
          cases ka with
          | cons q1 q2 =>
            cases q1
            cases q2 with
            | cons q3 q4 =>
              cases q3; cases q4; rfl
        subst this
        refine ⟨(a, [p.1, p.2]) :: ks, by rw [e1]; rfl, by rw [List.map_cons, e2]; rfl, fun q hq => ?_⟩
        rcases List.mem_cons.mp hq with rfl | hq
        · exact ha
        · exact e3 q hq
theorem prs_reps {K : PySem.W.Frag} {H : Hp} {A : Av} : ∀ {ps : List (Int × Int)} {L : List (Addr × List Int)}, L.map (·.2) = ps.map (fun p => [p.1, p.2]) → (∀ p, p ∈ L → SqT K H p.1 (p.2.map V.int)) → Reps K H A (ps.map prD) (L.map fun p => V.ref p.1)
  | [], [], _, _ => .nil
  | [], _ :: _, h, _ => by simp at h
  | _ :: _, [], h, _ => by simp at h
  | p :: ps, q :: L, h, hL => by
    simp only [List.map_cons, List.cons.injEq] at h
    obtain ⟨h1, h2⟩ := h
    refine .cons ?_ (prs_reps h2 fun r hr => hL r (List.mem_cons_of_mem _ hr))
    have := hL q List.mem_cons_self
    rw [h1] at this
    exact .tup this (.cons (.int _) (.cons (.int _) .nil))

/-! ### sorted -/
theorem each_of {K : PySem.W.Frag} {H : Hp} {A : Av} : ∀ {ds : List D} {vs : List V} {us : List Value}, Reps K H A ds vs → Vals vs us → PySem.W.EachIs (fun u d => ∃ v, RelV v u ∧ Rep K H A d v) us ds
  | [], _, _, h, r => by cases h; cases r; exact .nil
  | d :: ds, _, _, h, r => by
    cases h with
    | cons h1 h2 =>
      cases r with
      | cons r1 r2 => exact .cons ⟨_, r1, h1⟩ (each_of h2 r2)
theorem each_reads {pins : List (Addr × Obj)} {σ : L2.St} {H : Hp} {s : Shared} {A : Av} (I : Inv X pins σ H s) : ∀ {ds : List D} {vs : List V} {us : List Value}, Reps X.K H A ds vs → Vals vs us → (∀ d, d ∈ ds → d.canLay0 = true) → PySem.W.EachIs (fun u d => ∃ as, Reads s.heap u (id d) as) us ds
  | [], _, _, h, r, _ => by cases h; cases r; exact .nil
  | d :: ds, _, _, h, r, hc => by
    cases h with
    | cons h1 h2 =>
      cases r with
      | cons r1 r2 => exact .cons (Dp.reads I _ _ _ (h1.dp _ _ (hc d List.mem_cons_self)) r1) (each_reads I h2 r2 fun e m => hc e (List.mem_cons_of_mem _ m))
theorem of_each {K : PySem.W.Frag} {H : Hp} {A : Av} : ∀ {ds : List D} {us : List Value}, PySem.W.EachIs (fun u d => ∃ v, RelV v u ∧ Rep K H A d v) us ds → ∃ vs, Vals vs us ∧ Reps K H A ds vs
  | _, _, .nil => ⟨[], .nil, .nil⟩
  | _, _, .cons ⟨v, r, h⟩ t => by
    obtain ⟨vs, r2, h2⟩ := of_each t
    exact ⟨v :: vs, .cons r r2, .cons h h2⟩
theorem sortOk_of {xs : List D} (h : sortOk xs = true) : PySem.W.AllAlike xs ∧ PySem.W.Sortable xs ∧ ∀ d, d ∈ xs → SeqAt.shaped d = true := by
  unfold sortOk at h
  simp only [Bool.and_eq_true, Bool.or_eq_true, List.all_eq_true] at h
  obtain ⟨⟨h1, h2⟩, h3⟩ := h
  refine ⟨fun d hd d' hd' => h1 d hd d' hd', ?_, h2⟩
  rcases h3 with h3 | h3
  · refine .inl fun d hd => ?_
    have := h3 d hd
    split at this
    · exact ⟨_, _, rfl⟩
    · cases this
  · refine .inr fun d hd => ?_
    have := h3 d hd
    split at this
    · cases this
    · cases this
    · rename_i n1 n2
      exact ⟨n1, fun xs e => n2 xs e⟩
theorem callA_sorted (hu : X.A.units + 80 < cLine) : CallR X (.builtin "sorted") (rC1 X.K .sorted true) := by
  intro pins s σ H vs us Q I r ⟨A0, A, C, dx, x, d, ex, rx, hC, hd, e, q⟩
  subst ex
  cases dx <;> first | (simp [op1] at e; done) | skip
  rename_i xs
  obtain ⟨a, ws, rfl, ha, ka⟩ := rx
  simp only [op1] at e
  split at e
  · rename_i hs
    cases e
    obtain ⟨h1, h2, h3⟩ := sortOk_of hs
    obtain ⟨its, rv, hl, hz⟩ := I.list ha.sql
    rw [Vals.ref1 r]
    refine PySem.W.sorted_data (enc := id) (R := fun u d => ∃ v, RelV v u ∧ Rep X.K H C d v) hl.isList (each_of (ka.anti hC) rv) (each_reads I ka rv fun d m => SeqAt.canLay_of_shaped (h3 d m)) (by simpa using h1) (by simpa using h2) (by rw [ka.length]; exact hz) (fun b hb => ?_) fun out ho eo => ?_
    · have := SeqAt.depth_of_shaped (h3 b hb)
      show X.A.units + 2 + b.depth < cLine
      omega
    · obtain ⟨vs', r1, r2⟩ := of_each eo
      obtain ⟨ep, he'⟩ := PyProof.Rows.sortedAll_at s.heap its out.toArray
      have hlen : vs'.length ≤ sizeLine := by rw [r1.length, ho, ka.length]; exact hz
      obtain ⟨g1, g2⟩ := lst_new (A := C) (p := s.heap.objs.size + 1) (I.hok.fresh (Nat.le_succ _)) hd r2
      exact ⟨.ref _, _, I.laid (t' := s.toks) (o := .lst vs') (fun _ _ => PyProof.Rows.sortedAll_old) (Nat.le_succ _) ⟨hlen, out, ep, r1, he'⟩, rfl, q _ _ (same_upd (I.hok.fresh (Nat.le_succ _))) g1 fun _ => g2⟩
  · cases e
end
end L3

set_option Elab.async false
set_option linter.all false
set_option maxRecDepth 100000
set_option maxHeartbeats 4000000
/-! sets of whole numbers -/
namespace L3
open PySem PySem.Spec PyProof.Rows L2

theorem mem_insI {p q : Int} : ∀ {l : List Int}, q ∈ insI p l ↔ q = p ∨ q ∈ l
  | [] => by simp [insI]
  | m :: r => by
    unfold insI
    split
    · simp
    · split
      · rename_i h; subst h; simp
      · rw [List.mem_cons, mem_insI, List.mem_cons]
        constructor
        · rintro (h | h | h)
          · exact .inr (.inl h)
          · exact .inl h
          · exact .inr (.inr h)
        · rintro (h | h | h)
          · exact .inr (.inl h)
          · exact .inl h
          · exact .inr (.inr h)
theorem mem_ssI {q : Int} : ∀ {ns : List Int}, q ∈ ssI ns ↔ q ∈ ns
  | [] => by simp [ssI]
  | n :: ns => by
    show q ∈ insI n (ssI ns) ↔ _
    rw [mem_insI, mem_ssI, List.mem_cons]
theorem insI_sorted (p : Int) : ∀ {l : List Int}, l.Pairwise (· < ·) → (insI p l).Pairwise (· < ·)
  | [], _ => by simp [insI]
  | m :: r, h => by
    obtain ⟨h1, h2⟩ := List.pairwise_cons.mp h
    unfold insI
    split
    · rename_i hl
      refine List.pairwise_cons.mpr ⟨fun b hb => ?_, h⟩
      rcases List.mem_cons.mp hb with rfl | hb
      · exact hl
      · exact Int.lt_trans hl (h1 b hb)
    · split
      · exact h
      · refine List.pairwise_cons.mpr ⟨fun b hb => ?_, insI_sorted p h2⟩
        rcases mem_insI.mp hb with rfl | hb
        · omega
        · exact h1 b hb
theorem ssI_sorted : ∀ ns : List Int, (ssI ns).Pairwise (· < ·)
  | [] => List.Pairwise.nil
  | n :: ns => insI_sorted n (ssI_sorted ns)
theorem insI_le (p : Int) : ∀ l : List Int, (insI p l).length ≤ l.length + 1
  | [] => by simp [insI]
  | m :: r => by
    unfold insI
    split
    · simp
    · split
      · simp
      · have := insI_le p r; simp; omega
theorem ssI_le : ∀ ns : List Int, (ssI ns).length ≤ ns.length
  | [] => by simp [ssI]
  | n :: ns => by
    have h1 := insI_le n (ssI ns)
    have h2 := ssI_le ns
    show (insI n (ssI ns)).length ≤ _
    simp; omega
theorem reps_intL {K : PySem.W.Frag} {H : Hp} {A : Av} : ∀ ns : List Int, Reps K H A (ns.map .int) (ns.map V.int)
  | [] => .nil
  | n :: ns => .cons (.int n) (reps_intL ns)
theorem rising_nodup {l : List Int} (h : l.Pairwise (· < ·)) : l.Nodup := h.imp fun h e => by omega
theorem rising_unique : ∀ {l m : List Int}, l.Pairwise (· < ·) → m.Pairwise (· < ·) → (∀ q, q ∈ l ↔ q ∈ m) → l = m
  | [], [], _, _, _ => rfl
  | [], b :: m, _, _, h => by have := (h b).mpr (by simp); cases this
  | a :: l, [], _, _, h => by have := (h a).mp (by simp); cases this
  | a :: l, b :: m, h1, h2, h => by
    obtain ⟨p1, p2⟩ := List.pairwise_cons.mp h1
    obtain ⟨q1, q2⟩ := List.pairwise_cons.mp h2
    have e : a = b := by
      rcases List.mem_cons.mp ((h a).mp (by simp)) with e | e
      · exact e
      · rcases List.mem_cons.mp ((h b).mpr (by simp)) with e2 | e2
        · exact e2.symm
        · have := q1 a e; have := p1 b e2; omega
    subst e
    congr 1
    refine rising_unique p2 q2 fun q => ⟨fun hq => ?_, fun hq => ?_⟩
    · rcases List.mem_cons.mp ((h q).mp (List.mem_cons_of_mem _ hq)) with e | e
      · subst e; have := p1 q hq; omega
      · exact e
    · rcases List.mem_cons.mp ((h q).mpr (List.mem_cons_of_mem _ hq)) with e | e
      · subst e; have := q1 q hq; omega
      · exact e

/-! ### set(xs), xs whole numbers in a list or a tuple -/
abbrev newSet (w : World) : Obj := { cls := .type "set", dict := none, data := .set #[] 0 (.fresh 0 0 (!w.params.followText "set-order")) }
section
variable {P : Program} {w : World} {A : Around} {E : Value → Shared → Prop} {s : Shared}
/-- the list's road: as the hand layer goes it for a tuple -/
theorem set_of_list {l : Addr} {items : Array Value} (ns : List Int) {Q : Value → Shared → Prop} (hh : A.handled = none) (hl : s.heap.IsList l items) (hit : IntsAre items.toList ns) (hb : ns.length + 1 < scanBound)
    (h : ∀ (h' : Heap) (tk c : Nat), SetR w h' s.heap.objs.size (fun j => decide (j ∈ ns)) c → (∀ b o, s.heap.get? b = some o → h'.get? b = some o) → Q (.ref s.heap.objs.size) { s with heap := h', toks := tk }) :
    wpAny (model P w) A (call (.type "set") [.ref l]) Q E s := by
  have hisz : items.size = ns.length := by
    have q := IntsAre.length hit
    rwa [Array.length_toList] at q
  obtain ⟨c, tl, hmro⟩ := F.called_set.mro
  have hmade := F.called_set.made
  have hsub := F.called_set.sub
  refine wpAny_call (codeAny_of_tree ?_)
  show wpAny _ _ (callAny (.type "set") _) _ _ _
  refine wpAny_pure ⟨Code.quiet_builtin _ (by decide +kernel), codeAny_builtin F.entry_type_call ?_⟩
  rw [Around.under_plain (weight_type_call_type "set" [.ref l] []) rfl]
  have h1 := F.called_set.notType
  have h2 := F.called_set.canCreate
  have hct := F.typeCall_set_1 (.ref l)
  repeat (any_goals (first | assumption | wp_step))
  refine codeAny_mono (code_set_led1 (.ref l) (E := E) (Q₁ := fun obj t => obj = .ref s.heap.objs.size ∧ t = { s with heap := s.heap.push (newSet w) }) ⟨rfl, rfl⟩) fun r t hr => ?_
  cases r with
  | error e => exact hr
  | ok fl =>
    cases fl with
    | ret obj =>
      obtain ⟨rfl, rfl⟩ := hr
      have hS : (s.heap.push (newSet w)).get? s.heap.objs.size = some (newSet w) := Heap.get?_push_size _ rfl
      have hT : Shared.TypeIs { s with heap := s.heap.push (newSet w) } (.ref s.heap.objs.size) "set" := ⟨_, hS, rfl⟩
      have hli := F.called_set.init.lookup
      have hbi := F.called_set.init.bind (.ref s.heap.objs.size)
      repeat (any_goals (first | assumption | wp_step))
      refine codeAny_mono (codeAny_call_builtin (R := wants (fun r t => r = .none ∧ ∃ h' tk c, t = { s with heap := h', toks := tk } ∧ SetR w h' s.heap.objs.size (fun j => decide (j ∈ ns)) c ∧
          (∀ b o, s.heap.get? b = some o → h'.get? b = some o)) E) F.called_set.init.plain F.entry_set_init (check_set_init_1 hT ?_)) fun r₂ t₂ hr₂ => ?_
      · obtain ⟨ol, hol, hcl, nl, hdl⟩ := hl
        obtain ⟨ocls, odict, odata, oslots⟩ := ol
        simp only at hcl hdl
        subst hcl; subst hdl
        have hol' : (s.heap.push (newSet w)).get? l = some { cls := .type "list", dict := odict, data := .seq items nl, slots := oslots } := Heap.get?_push_of_some _ hol
        have hsls := F.sub_list_set
        have hslf := F.sub_list_frozenset
        have hne : (Value.type "list" == Value.type "dict") = false := by decide
        have hl1 : (s.heap.push (newSet w)).IsList l items := ⟨_, hol', rfl, nl, rfl⟩
        unfold Builtin.«set.__init__» noKeywords Builtin.Frozenset.updateFrom
        generalize hPI : pyIter = PI
        wp_walk
        subst hPI
        refine wpAny_pyIter_list hl1 ?_
        refine wpAny_bind (wpAny_runValue ?_)
        have hlS : l < s.heap.objs.size := Heap.lt_size hol
        have hh3 : A.in1.in1.in1.handled = none := by simp [hh]
        have hneI : l ≠ (s.heap.push (newSet w)).objs.size := by
          rw [Heap.size_push]; exact Nat.ne_of_lt (Nat.lt_succ_of_lt hlS)
        have hSf : s.heap.objs.size ∉ [(s.heap.push (newSet w)).objs.size, l] := by
          rw [Heap.size_push]; simp only [List.mem_cons, List.mem_singleton, List.not_mem_nil, or_false, not_or]
          exact ⟨Nat.ne_of_lt (Nat.lt_succ_self _), Nat.ne_of_gt hlS⟩
        have hval : ∀ (i : Nat) (v : Value), items[i]? = some v → ∃ k t, ns[i]? = some k ∧ v = .int k t := fun i v hv => by
          have hi : i < ns.length := by rw [← hisz]; exact (Array.getElem?_eq_some_iff.mp hv).1
          obtain ⟨t, e⟩ := PyProof.Rows.IntsAre.int_at hit i v (by rw [Array.getElem?_toList]; exact hv)
          refine ⟨ns[i], t, List.getElem?_eq_getElem hi, ?_⟩
          rw [e, List.getD_eq_getElem?_getD, List.getElem?_eq_getElem hi] <;> rfl
        refine set_update_ints ((Walks.list hh3 _ l hneI items).toS) s.heap.objs.size
          hSf ns hisz hb hval (items.size - 0) 0 _ (by omega) (Nat.zero_le _)
          ⟨⟨_, Heap.get?_push_size _ rfl, rfl, rfl⟩, (hl1.push _)⟩ ⟨0, Nat.le_refl 0, setR_new_at (Heap.get?_push_of_some _ hS)⟩ ?_
        intro t c' hm _ hS'
        obtain ⟨h', g2, d', tk', os'⟩ := t
        have eg : g2 = s.gens := hm.gens
        have ed : d' = s.drawn := hm.drawn
        have eo : os' = s.os := hm.os
        subst eg; subst ed; subst eo
        show wpAny _ _ _ _ _ _
        refine wpAny_pure ?_
        show wpAny _ _ (ret Value.none) _ _ _
        refine wpAny_pure ⟨rfl, h', tk', c', rfl, hS', fun b o e => ?_⟩
        have hb0 : b < s.heap.objs.size := Heap.lt_size e
        refine hm.heap b o ?_ (Heap.get?_push_of_some _ (Heap.get?_push_of_some _ e))
        rw [Heap.size_push]
        simp only [List.mem_cons, List.mem_singleton, List.not_mem_nil, or_false, not_or]
        exact ⟨Nat.ne_of_lt hb0, Nat.ne_of_lt (Nat.lt_succ_of_lt hb0)⟩
      · cases r₂ with
        | error e => exact hr₂
        | ok fl₂ =>
          cases fl₂ with
          | ret r =>
            obtain ⟨rfl, h', tk, c', rfl, hS', hk'⟩ := hr₂
            repeat (any_goals (first | assumption | wp_step))
            exact h _ _ _ hS' hk'
          | _ => exact hr₂.elim
    | _ => exact hr.elim
end
theorem setR_len {w : World} {h : Heap} {a : Addr} {ns : List Int} {n : Nat} (R : SetR w h a (fun j => decide (j ∈ ns)) n) : n = (ssI ns).length := by
  obtain ⟨o, es, ep, t, ho, _, _, _, nd, hm, _, _, hn, _⟩ := R
  have hp : (es.toList.map keyOf).Perm (ssI ns) := (List.perm_ext_iff_of_nodup nd (rising_nodup (ssI_sorted ns))).mpr fun k => by
    rw [mem_ssI, ← hm k, decide_eq_true_eq]
  have := hp.length_eq
  rw [List.length_map, Array.length_toList, hn] at this
  exact this
def rSetI (K : PySem.W.Frag) (w : World) : List V → Hp → VK → Prop := fun xs H Q => ∃ (l : Addr) (ns : List Int), xs = [V.ref l] ∧ (SqL K H l (ns.map V.int) ∨ SqT K H l (ns.map V.int)) ∧ ns.length ≤ 1000 ∧
  ∀ a, H a = none → Q (.ref a) (upd H a (SetO w a (fun j => decide (j ∈ ns)) (ssI ns).length))
section
variable {X : Cx}
theorem ints_vals : ∀ {ns : List Int} {us : List Value}, Vals (ns.map V.int) us → IntsAre us ns
  | [], _, .nil => .nil
  | n :: ns, _, .cons r t => by
    obtain ⟨k, rfl⟩ := r
    exact .cons n k (ints_vals t)
theorem cr_setI (hc : X.calm = true) : CallR X (.type "set") (rSetI X.K X.w) := by
  intro pins s σ H xs us Q I r h
  obtain ⟨l, ns, rfl, hq, hn, q⟩ := h
  rw [Vals.ref1 r]
  have hfr : H s.heap.objs.size = none := I.hok.fresh (Nat.le_refl _)
  have fin : ∀ (h' : Heap) (tk c : Nat), SetR X.w h' s.heap.objs.size (fun j => decide (j ∈ ns)) c → (∀ b o, s.heap.get? b = some o → h'.get? b = some o) →
      EP X pins σ Q (.ref s.heap.objs.size) { s with heap := h', toks := tk } := fun h' tk c R k => by
    have e := setR_len R
    subst e
    exact ⟨.ref s.heap.objs.size, upd H s.heap.objs.size (SetO X.w s.heap.objs.size (fun j => decide (j ∈ ns)) (ssI ns).length), I.laid (t' := tk) k (Nat.le_refl _) (setO_new R), rfl, q _ hfr⟩
  rcases hq with hq | hq
  · obtain ⟨its, rv, pl, hz⟩ := I.list hq
    exact set_of_list ns (I.ok.hd hc) pl.isList (by simpa using ints_vals rv) (by unfold scanBound; omega) fin
  · obtain ⟨its, rv, pt, hz⟩ := I.tuple hq
    exact call_set_tupI ns (I.ok.hd hc) (show s.heap.IsTuple l its.toArray from pt) (by simpa using ints_vals rv) (by unfold scanBound; omega) fun h' tk c R _ k => fin h' tk c R k
/-- len(found) -/
def rLenO (w : World) : List V → Hp → VK → Prop := fun vs H Q => ∃ (a : Addr) (S : Int → Bool) (n : Nat), vs = [V.ref a] ∧ H a = some (SetO w a S n) ∧ Q (.int n) H
theorem cr_lenO : CallR X (.builtin "len") (rLenO X.w) := by
  intro pins s σ H vs us Q I r h
  obtain ⟨a, S, n, rfl, ha, q⟩ := h
  have R := setO_get I ha
  rw [Vals.ref1 r]
  have hS : s.heap.SetOf (intKind X.prog X.w) a S n := R.setOf
  obtain ⟨o, es, ep, t, ho, hex, hd, _, _, hb, hf, hn⟩ := hS
  refine call_len_set ho hex hd hf ?_ ⟨.int n, H, I.tok _, ⟨_, by rw [hn]⟩, q⟩
  have : es.size < scanBound := hb
  unfold scanBound at this; omega
end
end L3

set_option Elab.async false
set_option linter.all false
set_option maxRecDepth 100000
set_option maxHeartbeats 1000000
/-! the rules for expressions -/
namespace L3
open PySem PySem.Spec PyProof.Rows L2

/-! ### no operator raises -/
theorem eqD_ne {x y : D} {n : String} : eqD x y ≠ .exc n := by
  unfold eqD; split <;> (try split) <;> (intro h; cases h)
theorem inD_ne {x y : D} {n : String} : inD x y ≠ .exc n := by
  unfold inD; split <;> (try split) <;> (intro h; cases h)
theorem isD_ne {x y : D} {n : String} : isD x y ≠ .exc n := by
  unfold isD; split <;> (intro h; cases h)
theorem ltD_ne {x y : D} {n : String} : ltD x y ≠ .exc n := by
  unfold ltD; split <;> (try split) <;> (intro h; cases h)
theorem leD_ne {x y : D} {n : String} : leD x y ≠ .exc n := by
  unfold leD; split <;> (try split) <;> (intro h; cases h)
theorem gtD_ne {x y : D} {n : String} : gtD x y ≠ .exc n := by
  unfold gtD; split <;> (try split) <;> (intro h; cases h)
theorem geD_ne {x y : D} {n : String} : geD x y ≠ .exc n := by
  unfold geD; split <;> (try split) <;> (intro h; cases h)
theorem notR_ne {r : R D} {n : String} (h : r ≠ .exc n) : notR r ≠ .exc n := by
  unfold notR; split
  · intro e; cases e
  · intro e; cases e
  · exact h
theorem op2_ne {o : B2} {x y : D} {n : String} : op2 o x y ≠ .exc n := by
  unfold op2
  split <;> first
    | exact eqD_ne | exact notR_ne eqD_ne | exact ltD_ne | exact leD_ne | exact gtD_ne | exact geD_ne | exact isD_ne | exact notR_ne isD_ne | exact inD_ne | exact notR_ne inD_ne
    | (intro h; cases h; done)
    | (split <;> (intro h; cases h; done))
theorem ssetR_ne {xs : List D} {n : String} : ssetR xs ≠ .exc n := by
  unfold ssetR
  split
  · split <;> (intro h; cases h)
  · split
    · split <;> (intro h; cases h)
    · intro h; cases h
theorem op1_ne {o : U1} {x : D} {n : String} : op1 o x ≠ .exc n := by
  unfold op1
  split <;> first
    | exact ssetR_ne
    | (intro h; cases h; done)
    | (split <;> (intro h; cases h; done))
    | (split <;> (try split) <;> (intro h; cases h; done))
theorem sliceD_ne {x : D} {l h : Option Int} {n : String} : sliceD x l h ≠ .exc n := by
  unfold sliceD
  split <;> (intro h; cases h)

mutual
theorem lk1_lk0 : ∀ (c : CE) (i : Nat), i ∈ lk1 c → i ∈ lk0 c
  | .cn _, _, h => by simp [lk1] at h
  | .var _, _, h => by simp [lk1] at h
  | .tup es, _, h => h
  | .lst es, _, h => h
  | .dct0, _, h => h
  | .u _ a, _, h => h
  | .b o a c, i, h => by cases o <;> exact h
  | .and _ c, i, h => lk1_lk0 c i h
  | .or _ c, i, h => lk1_lk0 c i h
  | .not _, _, h => h
  | .chain .., _, h => h
  | .ite _ a b, i, h => by
    simp only [lk1, List.mem_append] at h
    simp only [lk0, List.mem_append]
    exact h.imp (lk1_lk0 a i) (lk1_lk0 b i)
  | .sl .., _, h => h
  | .isi .., _, h => h
  | .call .., _, h => h
  | .lc .., _, h => h
  | .rg .., _, h => h
end
/-! ### what is wanted behind an evaluation -/
abbrev Wn := String → Hp → Prop
def Post {α : Type} (W : Wn) (H : Hp) (r : R α) (P : α → Prop) : Prop :=
  match r with
  | .ok a => P a
  | .exc n => ∀ H', Same H H' → W n H'
  | .stuck => False
section
variable {α β : Type} {W : Wn} {H H' : Hp} {r : R α} {P P' : α → Prop}
theorem post_bind {k : α → R β} {P : β → Prop} : Post W H (r.bind k) P = Post W H r fun a => Post W H (k a) P := by cases r <;> rfl
theorem Post.imp (h : Post W H r P) (e : Same H H') (hp : ∀ a, r = .ok a → P a → P' a) : Post W H' r P' := by
  cases r with
  | ok a => exact hp a rfl h
  | exc n => exact fun H'' e' => h H'' (e.trans e')
  | stuck => exact h
theorem Post.ok_of (h : Post W H r P) (hn : ∀ n, r ≠ .exc n) : ∃ a, r = .ok a ∧ P a := by
  cases r with
  | ok a => exact ⟨a, rfl, h⟩
  | exc n => exact absurd rfl (hn n)
  | stuck => exact h.elim
end

/-- an expression's reading: its value by the evaluator -/
def tE (K : PySem.W.Frag) (W : Wn) (T : FT) (c : CE) : TE := fun σ H Q => ∃ A H₀ env ex, SR K A H₀ H env ex σ ∧
  Post W H (ev T c env) fun d => ∀ v H', Same H H' → RepT K H' (ExM ex A (lk0 c)) (ExM ex A (lk1 c)) d v → (fresh T c = true → Nw K H H' (ExM ex A (lk1 c)) d v) → Q v H'
def tL (K : PySem.W.Frag) (W : Wn) (T : FT) (es : CL) : TA := fun σ H Q => ∃ A H₀ env ex, SR K A H₀ H env ex σ ∧
  Post W H (evs T es env) fun ds => ∀ vs H', Same H H' → Reps K H' (ExM ex A (lks es)) ds vs → Q vs H'
def tT (K : PySem.W.Frag) (W : Wn) (T : FT) (c : CE) : TT := fun σ H Q => ∃ A H₀ env ex, SR K A H₀ H env ex σ ∧
  Post W H (ev T c env) fun d => ∃ b, d = .bool b ∧ ∀ H', Same H H' → Q b H'

section
variable {X : Cx} {W : Wn} {T : FT} {a b c e : Expr} {ca cb cc : CE} {pos : Pos}

theorem ve_cn {k : Const} {j : Nat} {d : D} (hd : atom d = true) (h : PE X (.Constant k j pos) (tC (toV d))) : PE X (.Constant k j pos) (tE X.K W T (.cn d)) :=
  PE.imp h fun pins s σ H Q I ⟨A, H₀, env, ex, S, p⟩ => p _ _ (Same.refl _) (repT_atom hd) fun z => by cases z
theorem ve_glob {x : Str} {u : Value} {d : D} (hd : atom d = true) (hg : Gl X x) (hm : X.mg x = some u) (r : RelV (toV d) u) (hdb : (x == ("__debug__" : Str)) = false) : PE X (.Name x pos) (tE X.K W T (.cn d)) :=
  PE.imp (pe_glob hg hm r hdb) fun pins s σ H Q I ⟨A, H₀, env, ex, S, p⟩ => p _ _ (Same.refl _) (repT_atom hd) fun z => by cases z
theorem ve_globD {x : Str} {u : Value} {v : V} {d : D} (hd : ∀ H A, Rep X.K H A d v) (hg : Gl X x) (hm : X.mg x = some u) (r : RelV v u) (hdb : (x == ("__debug__" : Str)) = false) : PE X (.Name x pos) (tE X.K W T (.cn d)) :=
  PE.imp (pe_glob hg hm r hdb) fun pins s σ H Q I ⟨A, H₀, env, ex, S, p⟩ => p _ _ (Same.refl _) (repT_of (hd _ _)) fun z => by cases z
theorem ve_var {i : Nat} {x : Str} (hN : X.N[i]? = some x) (hv : Vis X.env.scope x) (hd : (x == ("__debug__" : Str)) = false) (hcd : (x == ("__classdict__" : Str)) = false) : PE X (.Name x pos) (tE X.K W T (.var i)) :=
  PE.imp (pe_var hN hv hd hcd) fun pins s σ H Q I ⟨A, H₀, env, ex, S, p⟩ => by
    simp only [ev] at p
    split at p
    · rename_i d fl h
      obtain ⟨v, e1, r, _⟩ := S.at_ i d fl h
      exact ⟨v, e1, p v H (Same.refl _) r fun z => by cases z⟩
    · exact p.elim

/-- one part -/
theorem part1 {K : PySem.W.Frag} {c : CE} {σ : L2.St} {H : Hp} {A : Av} {H₀ : Hp} {env : Env} {ex : Nat → Option Addr} {P : D → Prop} {Q : VK} (S : SR K A H₀ H env ex σ) (p : Post W H (ev T c env) P)
    (h : ∀ d v H1, P d → Same H H1 → SR K A H₀ H1 env ex σ → RepT K H1 (ExM ex A (lk0 c)) (ExM ex A (lk1 c)) d v → Q v H1) : tE K W T c σ H Q :=
  ⟨A, H₀, env, ex, S, p.imp (Same.refl _) fun d _ hp v H1 e r _ => h d v H1 hp e (S.ext e) r⟩
theorem Post.ext {α : Type} {W : Wn} {H H' : Hp} {r : R α} {P : α → Prop} (h : Post W H r P) (e : Same H H') : Post W H' r P := h.imp e fun _ _ x => x

/-- two operands, an atom told -/
theorem ve_opA {op : Operator} {o : B2} (hop : OpR X (binaryOp op) (rA X.K o)) (hat : ∀ x y d, op2 o x y = .ok d → atom d = true) (ha : PE X a (tE X.K W T ca)) (hb : PE X b (tE X.K W T cb)) : PE X (.BinOp a op b pos) (tE X.K W T (.b o ca cb)) :=
  PE.imp (pe_op hop ha hb) fun pins s σ H Q I ⟨A, H₀, env, ex, S, p⟩ => by
    simp only [ev, post_bind] at p
    refine part1 S p fun dx x H1 p1 e1 S1 r1 => part1 S1 (p1.ext e1) fun dy y H2 p2 e2 S2 r2 => ?_
    obtain ⟨d, ho, q⟩ := p2.ok_of fun _ => op2_ne
    have hd := hat _ _ _ ho
    exact ⟨_, _, _, _, dx, dy, d, r1.same e2, r2, ho, hd, q _ _ (e1.trans e2) (repT_atom hd) fun z => Nw.of_na (by cases d <;> first | rfl | cases hd)⟩
theorem ve_cmpA {op : CmpOp} {o : B2} (hop : OpR X (compareOp op) (rA X.K o)) (hat : ∀ x y d, op2 o x y = .ok d → atom d = true) (hm : behindInMarks op b = false) (ha : PE X a (tE X.K W T ca)) (hb : PE X b (tE X.K W T cb)) : PE X (.Compare a [op] [b] pos) (tE X.K W T (.b o ca cb)) :=
  PE.imp (pe_cmpR hop ha hb hm) fun pins s σ H Q I ⟨A, H₀, env, ex, S, p⟩ => by
    simp only [ev, post_bind] at p
    refine part1 S p fun dx x H1 p1 e1 S1 r1 => part1 S1 (p1.ext e1) fun dy y H2 p2 e2 S2 r2 => ?_
    obtain ⟨d, ho, q⟩ := p2.ok_of fun _ => op2_ne
    have hd := hat _ _ _ ho
    exact ⟨_, _, _, _, dx, dy, d, r1.same e2, r2, ho, hd, q _ _ (e1.trans e2) (repT_atom hd) fun z => Nw.of_na (by cases d <;> first | rfl | cases hd)⟩
theorem vt_cmpA {op : CmpOp} {o : B2} (hop : OpR X (compareOp op) (rA X.K o)) (hat : ∀ x y d, op2 o x y = .ok d → atom d = true) (hm : behindInMarks op b = false) (ha : PE X a (tE X.K W T ca)) (hb : PE X b (tE X.K W T cb)) : PT X (.Compare a [op] [b] pos) (tT X.K W T (.b o ca cb)) :=
  PT.imp (pt_cmpR hop ha hb hm) fun pins s σ H Q I ⟨A, H₀, env, ex, S, p⟩ => by
    simp only [ev, post_bind] at p
    refine part1 S p fun dx x H1 p1 e1 S1 r1 => part1 S1 (p1.ext e1) fun dy y H2 p2 e2 S2 r2 => ?_
    obtain ⟨d, ho, k, rfl, q⟩ := p2.ok_of fun _ => op2_ne
    exact ⟨_, _, _, _, dx, dy, _, r1.same e2, r2, ho, rfl, k, rfl, q _ (e1.trans e2)⟩
theorem ve_chain {op op' : CmpOp} {o o' : B2} (hop : OpR X (compareOp op) (rA X.K o)) (hop' : OpR X (compareOp op') (rA X.K o')) (hat : ∀ x y d, op2 o x y = .ok d → atom d = true) (hat' : ∀ x y d, op2 o' x y = .ok d → atom d = true)
    (hm : lastMarks [op, op'] [b, c] = false) (ha : PE X a (tE X.K W T ca)) (hb : PE X b (tE X.K W T cb)) (hc : PE X c (tE X.K W T cc)) : PE X (.Compare a [op, op'] [b, c] pos) (tE X.K W T (.chain o o' ca cb cc)) :=
  PE.imp (pe_chain hop hop' ha hb hc hm) fun pins s σ H Q I ⟨A, H₀, env, ex, S, p⟩ => by
    simp only [ev, post_bind] at p
    refine part1 S p fun dx x H1 p1 e1 S1 r1 => part1 S1 (p1.ext e1) fun dy y H2 p2 e2 S2 r2 => ?_
    obtain ⟨d, ho, q⟩ := p2.ok_of fun _ => op2_ne
    have hd := hat _ _ _ ho
    refine ⟨_, _, _, _, dx, dy, d, r1.same e2, r2, ho, hd, ?_⟩
    split at q
    · refine ⟨true, rfl, iteT ?_⟩
      rw [post_bind] at q
      refine part1 S2 (q.ext (e1.trans e2)) fun dz z H3 p3 e3 S3 r3 => ?_
      obtain ⟨d', ho', q'⟩ := p3.ok_of fun _ => op2_ne
      have hd' := hat' _ _ _ ho'
      exact ⟨_, _, _, _, dy, dz, d', r2.same e3, r3, ho', hd', q' _ _ ((e1.trans e2).trans e3) (repT_atom hd') fun z => by cases z⟩
    · exact ⟨false, rfl, iteF (q _ _ (e1.trans e2) (repT_atom rfl) fun z => by cases z)⟩
    · exact q.elim
theorem vt_chain {op op' : CmpOp} {o o' : B2} (hop : OpR X (compareOp op) (rA X.K o)) (hop' : OpR X (compareOp op') (rA X.K o')) (hat : ∀ x y d, op2 o x y = .ok d → atom d = true) (hat' : ∀ x y d, op2 o' x y = .ok d → atom d = true)
    (hm : lastMarks [op, op'] [b, c] = false) (ha : PE X a (tE X.K W T ca)) (hb : PE X b (tE X.K W T cb)) (hc : PE X c (tE X.K W T cc)) : PT X (.Compare a [op, op'] [b, c] pos) (tT X.K W T (.chain o o' ca cb cc)) :=
  PT.imp (pt_chain hop hop' ha hb hc hm) fun pins s σ H Q I ⟨A, H₀, env, ex, S, p⟩ => by
    simp only [ev, post_bind] at p
    refine part1 S p fun dx x H1 p1 e1 S1 r1 => part1 S1 (p1.ext e1) fun dy y H2 p2 e2 S2 r2 => ?_
    obtain ⟨d, ho, q⟩ := p2.ok_of fun _ => op2_ne
    have hd := hat _ _ _ ho
    refine ⟨_, _, _, _, dx, dy, d, r1.same e2, r2, ho, hd, ?_⟩
    split at q
    · refine ⟨true, rfl, iteT ?_⟩
      rw [post_bind] at q
      refine part1 S2 (q.ext (e1.trans e2)) fun dz z H3 p3 e3 S3 r3 => ?_
      obtain ⟨d', ho', k, rfl, q'⟩ := p3.ok_of fun _ => op2_ne
      exact ⟨_, _, _, _, dy, dz, _, r2.same e3, r3, ho', rfl, k, rfl, q' _ ((e1.trans e2).trans e3)⟩
    · obtain ⟨k, e', q'⟩ := q
      cases e'
      exact ⟨false, rfl, iteF ⟨false, rfl, q' _ (e1.trans e2)⟩⟩
    · exact q.elim
theorem ve_add (ha : PE X a (tE X.K W T ca)) (hb : PE X b (tE X.K W T cb)) : PE X (.BinOp a .Add b pos) (tE X.K W T (.b .add ca cb)) :=
  PE.imp (pe_op opA_add ha hb) fun pins s σ H Q I ⟨A, H₀, env, ex, S, p⟩ => by
    simp only [ev, post_bind] at p
    refine part1 S p fun dx x H1 p1 e1 S1 r1 => part1 S1 (p1.ext e1) fun dy y H2 p2 e2 S2 r2 => ?_
    obtain ⟨d, ho, q⟩ := p2.ok_of fun _ => op2_ne
    refine ⟨_, _, _, _, ExM ex A (lk1 ca ++ lk1 cb), dx, dy, d, r1.same e2, r2, ExM.sub fun i h => List.mem_append_left _ h, ExM.sub fun i h => List.mem_append_right _ h, S2.exDom _, ho, fun v H' e3 r3 n3 => ?_⟩
    refine q v H' ((e1.trans e2).trans e3) (repT_of r3) fun _ => fun ow => ?_
    obtain ⟨p, ep, np, op, rp⟩ := n3 rfl ow
    exact ⟨p, ep, (e1.trans e2).free np, op, rp⟩
theorem ve_rep (hf : fresh T ca = true ∨ ∃ es, ca = .tup es) (ha : PE X a (tE X.K W T ca)) (hb : PE X b (tE X.K W T cb)) : PE X (.BinOp a .Mult b pos) (tE X.K W T (.b .rep ca cb)) :=
  PE.imp (pe_op opA_rep ha hb) fun pins s σ H Q I ⟨A, H₀, env, ex, S, p⟩ => by
    simp only [ev, post_bind] at p
    refine ⟨A, H₀, env, ex, S, p.imp (Same.refl _) fun dx hx p1 x H1 e1 r1 n1 => part1 (S.ext e1) (Post.ext p1 e1) fun dy y H2 p2 e2 S2 r2 => ?_⟩
    obtain ⟨d, ho, q⟩ := p2.ok_of fun _ => op2_ne
    refine ⟨_, _, _, _, ExM ex A (lk1 ca ++ lk1 cb), dx, dy, d, r1.same e2, fun xs hxs => ?_, r2, ExM.sub fun i h => List.mem_append_left _ h, S2.exDom _, ho, fun v H' e3 r3 n3 => ?_⟩
    · subst hxs
      rcases hf with hf | ⟨es, rfl⟩
      · obtain ⟨a, ea, _, ow, _⟩ := n1 hf rfl
        obtain ⟨vs, h⟩ := ow
        exact ⟨a, vs, ea, e2 _ _ h⟩
      · simp only [ev] at hx
        cases hq : evs T es env with
        | ok ds =>
          rw [hq] at hx
          change (if ds.length ≤ lim then R.ok (PyData.tuple ds) else .stuck) = _ at hx
          split at hx <;> cases hx
        | exc n => rw [hq] at hx; cases hx
        | stuck => rw [hq] at hx; cases hx
    · refine q v H' ((e1.trans e2).trans e3) (repT_of r3) fun _ => fun ow => ?_
      obtain ⟨p, ep, np, op, rp⟩ := n3 rfl ow
      exact ⟨p, ep, (e1.trans e2).free np, op, rp⟩
theorem ve_idx (hs : PlainIx b) (ha : PE X a (tE X.K W T ca)) (hb : PE X b (tE X.K W T cb)) : PE X (.Subscript a b pos) (tE X.K W T (.b .idx ca cb)) :=
  PE.imp (pe_ix ixA ha hb hs) fun pins s σ H Q I ⟨A, H₀, env, ex, S, p⟩ => by
    simp only [ev, post_bind] at p
    refine part1 S p fun dx x H1 p1 e1 S1 r1 => part1 S1 (p1.ext e1) fun dy y H2 p2 e2 S2 r2 => ?_
    obtain ⟨d, ho, q⟩ := p2.ok_of fun _ => op2_ne
    exact ⟨_, _, _, _, dx, dy, d, r1.same e2, r2, ho, fun v H' e3 r3 _ => q v H' ((e1.trans e2).trans e3) (repT_of r3) fun z => by cases z⟩
theorem ve_neg (ha : PE X a (tE X.K W T ca)) : PE X (.UnaryOp .USub a pos) (tE X.K W T (.u .neg ca)) :=
  PE.imp (pe_un unA_neg ha) fun pins s σ H Q I ⟨A, H₀, env, ex, S, p⟩ => by
    simp only [ev, post_bind] at p
    refine part1 S p fun dx x H1 p1 e1 S1 r1 => ?_
    obtain ⟨d, ho, q⟩ := p1.ok_of fun _ => op1_ne
    have hd : atom d = true := by
      cases dx <;> first | (simp [op1] at ho; done) | (simp [op1] at ho; subst ho; rfl)
    exact ⟨_, _, dx, d, r1, ho, hd, q _ _ e1 (repT_atom hd) fun z => by cases z⟩

/-! ### and, or, not -/
theorem ve_not (ha : PE X a (tE X.K W T ca)) : PE X (.UnaryOp .Not a pos) (tE X.K W T (.not ca)) :=
  PE.imp (pe_not ha) fun pins s σ H Q I ⟨A, H₀, env, ex, S, p⟩ => by
    simp only [ev, post_bind] at p
    refine part1 S p fun dx x H1 p1 e1 S1 r1 => ?_
    split at p1
    · cases r1
      exact ⟨_, rfl, p1 _ _ e1 (repT_atom rfl) fun z => by cases z⟩
    · exact p1.elim
theorem ve_and {rest : List Expr} (ha : PE X a (tE X.K W T ca)) (hb : PE X (.BoolOp .And (b :: rest) pos) (tE X.K W T cb)) : PE X (.BoolOp .And (a :: b :: rest) pos) (tE X.K W T (.and ca cb)) :=
  PE.imp (pe_and ha hb) fun pins s σ H Q I ⟨A, H₀, env, ex, S, p⟩ => by
    simp only [ev, post_bind] at p
    refine part1 S p fun dx x H1 p1 e1 S1 r1 => ?_
    split at p1
    · cases r1
      refine ⟨true, rfl, iteT (part1 S1 (p1.ext e1) fun dy y H2 p2 e2 S2 r2 => p2 y H2 (e1.trans e2) r2 fun z => by cases z)⟩
    · cases r1
      exact ⟨false, rfl, iteF (p1 _ _ e1 (repT_atom rfl) fun z => by cases z)⟩
    · exact p1.elim
theorem ve_or {rest : List Expr} (ha : PE X a (tE X.K W T ca)) (hb : PE X (.BoolOp .Or (b :: rest) pos) (tE X.K W T cb)) : PE X (.BoolOp .Or (a :: b :: rest) pos) (tE X.K W T (.or ca cb)) :=
  PE.imp (pe_or ha hb) fun pins s σ H Q I ⟨A, H₀, env, ex, S, p⟩ => by
    simp only [ev, post_bind] at p
    refine part1 S p fun dx x H1 p1 e1 S1 r1 => ?_
    split at p1
    · cases r1
      exact ⟨true, rfl, iteT (p1 _ _ e1 (repT_atom rfl) fun z => by cases z)⟩
    · cases r1
      exact ⟨false, rfl, iteF (part1 S1 (p1.ext e1) fun dy y H2 p2 e2 S2 r2 => p2 y H2 (e1.trans e2) r2 fun z => by cases z)⟩
    · exact p1.elim
/-- a test, one part -/
theorem partT {K : PySem.W.Frag} {c : CE} {σ : L2.St} {H : Hp} {A : Av} {H₀ : Hp} {env : Env} {ex : Nat → Option Addr} {k : D → R D} {P : D → Prop} {Q : Bool → Hp → Prop} (S : SR K A H₀ H env ex σ) (p : Post W H (ev T c env) fun d => Post W H (k d) P) (hk : ∀ d, (∀ b, d ≠ .bool b) → k d = .stuck)
    (h : ∀ b H1, Post W H (k (.bool b)) P → Same H H1 → SR K A H₀ H1 env ex σ → Q b H1) : tT K W T c σ H Q := by
  refine ⟨A, H₀, env, ex, S, p.imp (Same.refl _) fun d _ hp => ?_⟩
  cases d with
  | bool b => exact ⟨b, rfl, fun H1 e => h b H1 hp e (S.ext e)⟩
  | _ => (rw [hk _ (fun b z => by cases z)] at hp; exact hp.elim)
theorem vt_not (ha : PT X a (tT X.K W T ca)) : PT X (.UnaryOp .Not a pos) (tT X.K W T (.not ca)) :=
  PT.imp (pt_not ha) fun pins s σ H Q I ⟨A, H₀, env, ex, S, p⟩ => by
    simp only [ev, post_bind] at p
    refine partT S p (fun d h => by cases d <;> first | rfl | exact absurd rfl (h _)) fun b H1 p1 e1 S1 => ?_
    obtain ⟨b', e', q⟩ := p1
    cases e'
    exact q H1 e1
theorem vw_and1 (ha : PT X a (tT X.K W T ca)) : PW X (.BoolOp .And [a] pos) (tT X.K W T ca) := pw_and1 ha
theorem vw_or1 (ha : PT X a (tT X.K W T ca)) : PW X (.BoolOp .Or [a] pos) (tT X.K W T ca) := pw_or1 ha
theorem PW.imp {t t' : TT} (h : PW X e t) (hi : ∀ pins s σ H Q, Inv X pins σ H s → t' σ H Q → t σ H Q) : PW X e t' :=
  ⟨fun wh pins s σ H Q I q => h.run wh pins s σ H Q I (hi pins s σ H Q I q)⟩
theorem vw_and {rest : List Expr} (ha : PT X a (tT X.K W T ca)) (hb : PW X (.BoolOp .And (b :: rest) pos) (tT X.K W T cb)) : PW X (.BoolOp .And (a :: b :: rest) pos) (tT X.K W T (.and ca cb)) :=
  PW.imp (pw_and ha hb) fun pins s σ H Q I ⟨A, H₀, env, ex, S, p⟩ => by
    simp only [ev, post_bind] at p
    refine partT S p (fun d h => by cases d <;> first | rfl | exact absurd rfl (h _)) fun b H1 p1 e1 S1 => ?_
    cases b with
    | true => exact iteT ⟨A, H₀, env, ex, S1, p1.imp e1 fun d _ ⟨b', e', q⟩ => ⟨b', e', fun H2 e2 => q H2 (e1.trans e2)⟩⟩
    | false =>
      obtain ⟨b', e', q⟩ := p1
      cases e'
      exact iteF (q H1 e1)
theorem vw_or {rest : List Expr} (ha : PT X a (tT X.K W T ca)) (hb : PW X (.BoolOp .Or (b :: rest) pos) (tT X.K W T cb)) : PW X (.BoolOp .Or (a :: b :: rest) pos) (tT X.K W T (.or ca cb)) :=
  PW.imp (pw_or ha hb) fun pins s σ H Q I ⟨A, H₀, env, ex, S, p⟩ => by
    simp only [ev, post_bind] at p
    refine partT S p (fun d h => by cases d <;> first | rfl | exact absurd rfl (h _)) fun b H1 p1 e1 S1 => ?_
    cases b with
    | false => exact iteF ⟨A, H₀, env, ex, S1, p1.imp e1 fun d _ ⟨b', e', q⟩ => ⟨b', e', fun H2 e2 => q H2 (e1.trans e2)⟩⟩
    | true =>
      obtain ⟨b', e', q⟩ := p1
      cases e'
      exact iteT (q H1 e1)
/-- a value as a test -/
theorem vt_val (h : PE X e (tE X.K W T ca)) (he : ∀ whole, isTrue e X.env whole = (do let v ← whole; standAt e.pos; holding [v] (truthy v))) : PT X e (tT X.K W T ca) :=
  PT.imp (pt_val h he) fun pins s σ H Q I ⟨A, H₀, env, ex, S, p⟩ => by
    refine part1 S p fun dx x H1 p1 e1 S1 r1 => ?_
    obtain ⟨b, rfl, q⟩ := p1
    cases r1
    exact ⟨b, rfl, q H1 e1⟩
theorem ve_ite (hc : PT X c (tT X.K W T cc)) (ha : PE X a (tE X.K W T ca)) (hb : PE X b (tE X.K W T cb)) : PE X (.IfExp c a b pos) (tE X.K W T (.ite cc ca cb)) :=
  PE.imp (pe_ifExp hc ha hb) fun pins s σ H Q I ⟨A, H₀, env, ex, S, p⟩ => by
    simp only [ev, post_bind] at p
    refine partT S p (fun d h => by cases d <;> first | rfl | exact absurd rfl (h _)) fun b H1 p1 e1 S1 => ?_
    cases b with
    | true => exact iteT (part1 S1 (p1.ext e1) fun dy y H2 p2 e2 S2 r2 => p2 y H2 (e1.trans e2) (r2.anti (ExM.sub fun i h => List.mem_append_left _ h) (ExM.sub fun i h => List.mem_append_left _ h)) fun z => by cases z)
    | false => exact iteF (part1 S1 (p1.ext e1) fun dy y H2 p2 e2 S2 r2 => p2 y H2 (e1.trans e2) (r2.anti (ExM.sub fun i h => List.mem_append_right _ h) (ExM.sub fun i h => List.mem_append_right _ h)) fun z => by cases z)

/-! ### argument lists, displays, calls of built-ins -/
def notStar : Expr → Bool
  | .Starred _ _ => false
  | _ => true
theorem star_cons {e : Expr} {es : List Expr} {env : PySem.Env} (h : notStar e = true) : starEach (e :: es) env = (false, eval e env) :: starEach es env := by
  cases e <;> first | rfl | cases h
theorem star_none {pos : Pos} {env : PySem.Env} : ∀ {es : List Expr}, es.all notStar = true → (backTo pos (starEach es env)).any (·.1) = false
  | [], _ => rfl
  | e :: es, h => by
    simp only [List.all_cons, Bool.and_eq_true] at h
    rw [star_cons h.1]
    have ih := star_none (pos := pos) (env := env) h.2
    unfold backTo at ih ⊢
    simp only [List.map_cons, List.any_cons, ih]
    rfl
theorem va_nil : PA X [] (tL X.K W T .nil) := ⟨fun pos pins s σ H Q I ⟨A, H₀, env, ex, S, p⟩ => pa_nil.run pos pins s σ H Q I (p [] H (Same.refl _) .nil)⟩
theorem va_cons {es : List Expr} {cs : CL} (hn : notStar e = true) (he : PE X e (tE X.K W T ca)) (hr : PA X es (tL X.K W T cs)) : PA X (e :: es) (tL X.K W T (.cons ca cs)) :=
  ⟨fun pos pins s σ H Q I ⟨A, H₀, env, ex, S, p⟩ => (pa_cons he hr (star_cons hn)).run pos pins s σ H Q I (by
    simp only [evs, post_bind] at p
    refine part1 S p fun dx x H1 p1 e1 S1 r1 => ⟨A, H₀, env, ex, S1, p1.imp e1 fun ds _ p2 vs H2 e2 r2 => ?_⟩
    refine p2 (x :: vs) H2 (e1.trans e2) (.cons (rep_of ((r1.same e2).anti (ExM.sub fun i h => List.mem_append_left _ h) fun a z => ?_)) (r2.anti (ExM.sub fun i h => List.mem_append_right _ h)))
    exact ExM.sub (fun i h => List.mem_append_left _ (lk1_lk0 ca i h)) a z)⟩
theorem ve_tup {es : List Expr} {cs : CL} {k : Nat} (h : PA X es (tL X.K W T cs)) : PE X (.Tuple es k pos) (tE X.K W T (.tup cs)) :=
  PE.imp (pe_tup h) fun pins s σ H Q I ⟨A, H₀, env, ex, S, p⟩ => by
    simp only [ev, post_bind] at p
    refine ⟨A, H₀, env, ex, S, p.imp (Same.refl _) fun ds _ p1 vs H1 e1 r1 => ?_⟩
    split at p1
    · rename_i hl
      refine ⟨by rw [← r1.length, ← lim_eq]; exact hl, fun q hq => ?_⟩
      obtain ⟨g1, g2⟩ := tup_new (A := ExM ex A (lks cs)) hq r1
      exact p1 _ _ (e1.trans (same_upd hq)) (repT_of g1) fun z => by cases z
    · exact p1.elim
theorem ve_lst {es : List Expr} {cs : CL} (h : PA X es (tL X.K W T cs)) : PE X (.List es pos) (tE X.K W T (.lst cs)) :=
  PE.imp (pe_lst h) fun pins s σ H Q I ⟨A, H₀, env, ex, S, p⟩ => by
    simp only [ev, post_bind] at p
    refine ⟨A, H₀, env, ex, S, p.imp (Same.refl _) fun ds _ p1 vs H1 e1 r1 => ?_⟩
    split at p1
    · rename_i hl
      refine ⟨by rw [← r1.length, ← lim_eq]; exact hl, fun q hq => ?_⟩
      obtain ⟨g1, g2⟩ := lst_new (A := ExM ex A (lks cs)) hq (fun a z => (S.ext e1).exDom _ a z) r1
      refine p1 _ _ (e1.trans (same_upd hq)) (repT_of g1) fun _ ow => ?_
      obtain ⟨p, ep, np, op, rp⟩ := g2 ow
      exact ⟨p, ep, e1.free np, op, rp⟩
    · exact p1.elim
theorem ve_dct0 : PE X (.Dict [] [] pos) (tE X.K W T .dct0) :=
  PE.imp pe_dnewK fun pins s σ H Q I ⟨A, H₀, env, ex, S, p⟩ q hq => by
    obtain ⟨g1, g2⟩ := dct_new (K := X.K) (A := ExM ex A []) hq (S.exDom _)
    exact p _ _ (same_upd hq) (repT_of g1) fun _ => g2
/-- a built-in of one argument -/
theorem use1 {K : PySem.W.Frag} {u : U1} {fr : Bool} {σ : L2.St} {H : Hp} {A : Av} {H₀ : Hp} {env : Env} {ex : Nat → Option Addr} {Q : VK} (hf : fresh T (.u u ca) = true → fr = true) (S : SR K A H₀ H env ex σ)
    (p : Post W H (ev T (.u u ca) env) fun d => ∀ v H', Same H H' → RepT K H' (ExM ex A (lk1 ca)) (ExM ex A (lk1 ca)) d v → (fresh T (.u u ca) = true → Nw K H H' (ExM ex A (lk1 ca)) d v) → Q v H') :
    tCB (rC1 K u fr) (tCons (tE K W T ca) tNil) σ H Q := by
  simp only [ev, post_bind] at p
  refine part1 S p fun dx x H1 p1 e1 S1 r1 => ?_
  obtain ⟨d, ho, q⟩ := p1.ok_of fun _ => op1_ne
  refine ⟨_, _, ExM ex A (lk1 ca), dx, x, d, rfl, r1, fun a z => z, S1.exDom _, ho, fun v H' e2 r2 n2 => q v H' (e1.trans e2) (repT_of r2) fun z ow => ?_⟩
  obtain ⟨p, ep, np, op, rp⟩ := n2 (hf z) ow
  exact ⟨p, ep, e1.free np, op, rp⟩
theorem ve_b1 {x : Str} {id : String} {u : U1} {fr : Bool} {p : Pos} (hc : CallR X (.builtin id) (rC1 X.K u fr)) (hf : fresh T (.u u ca) = true → fr = true) (hg : Gl X x) (hm : X.mg x = none) (hv : bootBuiltins x = some (.builtin id)) (hnm : x ≠ "__name__") (hdb : (x == ("__debug__" : Str)) = false) (hn : notStar a = true)
    (ha : PE X a (tE X.K W T ca)) : PE X (.Call (.Name x p) [a] [] pos) (tE X.K W T (.u u ca)) :=
  PE.imp (pe_callB hc hg hm hv (pa_cons ha pa_nil (star_cons hn)) hnm hdb (star_cons hn) rfl) fun pins s σ H Q I ⟨A, H₀, env, ex, S, p⟩ => use1 hf S p
theorem ve_t1 {x : Str} {id : String} {u : U1} {fr : Bool} {p : Pos} (hc : CallR X (.type id) (rC1 X.K u fr)) (hf : fresh T (.u u ca) = true → fr = true) (hg : Gl X x) (hm : X.mg x = none) (hv : bootBuiltins x = some (.type id)) (hnm : x ≠ "__name__") (hdb : (x == ("__debug__" : Str)) = false) (hn : notStar a = true)
    (ha : PE X a (tE X.K W T ca)) : PE X (.Call (.Name x p) [a] [] pos) (tE X.K W T (.u u ca)) :=
  PE.imp (pe_callTy hc hg hm hv (pa_cons ha pa_nil (star_cons hn)) hnm hdb (star_cons hn) rfl) fun pins s σ H Q I ⟨A, H₀, env, ex, S, p⟩ => use1 hf S p
theorem ve_b2 {x : Str} {id : String} {o : B2} {p : Pos} (hc : CallR X (.builtin id) (rC2 X.K o)) (hat : ∀ x y d, op2 o x y = .ok d → atom d = true) (hg : Gl X x) (hm : X.mg x = none) (hv : bootBuiltins x = some (.builtin id)) (hnm : x ≠ "__name__") (hdb : (x == ("__debug__" : Str)) = false) (hn : notStar a = true) (hn2 : notStar b = true)
    (ha : PE X a (tE X.K W T ca)) (hb : PE X b (tE X.K W T cb)) : PE X (.Call (.Name x p) [a, b] [] pos) (tE X.K W T (.b o ca cb)) :=
  PE.imp (pe_callB hc hg hm hv (pa_cons ha (pa_cons hb pa_nil (star_cons hn2)) (star_cons hn)) hnm hdb (star_cons hn) (star_none (by simp [hn2]))) fun pins s σ H Q I ⟨A, H₀, env, ex, S, p⟩ => by
    simp only [ev, post_bind] at p
    refine part1 S p fun dx x H1 p1 e1 S1 r1 => part1 S1 (p1.ext e1) fun dy y H2 p2 e2 S2 r2 => ?_
    obtain ⟨d, ho, q⟩ := p2.ok_of fun _ => op2_ne
    have hd := hat _ _ _ ho
    exact ⟨_, _, _, _, dx, dy, x, y, d, rfl, r1.same e2, r2, ho, hd, q _ _ (e1.trans e2) (repT_atom hd) fun z => Nw.of_na (by cases d <;> first | rfl | cases hd)⟩
theorem ve_isi {t : Ty} {x y : Str} {p p2 : Pos} (hg : Gl X x) (hm : X.mg x = none) (hv : bootBuiltins x = some (.builtin "isinstance")) (hnm : x ≠ "__name__") (hdb : (x == ("__debug__" : Str)) = false)
    (hg2 : Gl X y) (hm2 : X.mg y = none) (hv2 : bootBuiltins y = some (.type (tyName t))) (hnm2 : y ≠ "__name__") (hdb2 : (y == ("__debug__" : Str)) = false) (hn : notStar a = true)
    (ha : PE X a (tE X.K W T ca)) : PE X (.Call (.Name x p) [a, .Name y p2] [] pos) (tE X.K W T (.isi ca t)) :=
  PE.imp (pe_callB (callA_isi t) hg hm hv (pa_cons ha (pa_cons (pe_bltn (v := .ty (tyName t)) hg2 hm2 hv2 rfl hnm2 hdb2) pa_nil rfl) (star_cons hn)) hnm hdb (star_cons hn) rfl) fun pins s σ H Q I ⟨A, H₀, env, ex, S, p⟩ => by
    simp only [ev, post_bind] at p
    refine part1 S p fun dx x H1 p1 e1 S1 r1 => ?_
    exact ⟨_, _, dx, x, rfl, r1, p1 _ _ e1 (repT_atom rfl) fun z => by cases z⟩

/-! ### sorted(set(..)) -/
theorem setO_same {H : Hp} {a p : Addr} {o o' : HO} (h1 : H a = none) (h2 : upd H a o p = none) : Same H (upd (upd H a o) p o') := (same_upd h1).trans (same_upd h2)
theorem ve_sset {p q pos : Pos} (hc : X.calm = true) (hu : X.A.units + 80 < cLine) (hg : Gl X "sorted") (hm : X.mg "sorted" = none) (hg2 : Gl X "set") (hm2 : X.mg "set" = none) (hn : notStar a = true) (ha : PE X a (tE X.K W T ca)) {q2 : Pos} :
    PE X (.Call (.Name "sorted" p) [.Call (.Name "set" q) [a] [] q2] [] pos) (tE X.K W T (.u .sset ca)) :=
  PE.imp (pe_callB ((cr_sortedT hc).or (cr_sortedSet hc)) hg hm rfl (pa_cons (pe_callTy ((cr_setOfT hc (by omega)).or (cr_setI hc)) hg2 hm2 rfl (pa_cons ha pa_nil (star_cons hn)) (by decide) (by decide) (star_cons hn) rfl) pa_nil rfl) (by decide) (by decide) rfl rfl) fun pins s σ H Q I ⟨A, H₀, env, ex, S, p⟩ => by
    simp only [ev, post_bind] at p
    refine part1 S p fun dx x H1 p1 e1 S1 r1 => ?_
    obtain ⟨d, ho, q⟩ := p1.ok_of fun _ => op1_ne
    cases dx <;> first | (simp [op1] at ho; done) | skip
    rename_i xs
    simp only [op1, ssetR] at ho
    split at ho
    · rename_i ps hps
      split at ho
      · rename_i hl
        cases ho
        obtain ⟨a0, vs, rfl, hls, ka⟩ := r1
        obtain ⟨rfl, hpos⟩ := pairsOf_some hps
        obtain ⟨ks, rfl, hks, hkt⟩ := reps_prs ka
        have hlen : ks.length = ps.length := by
          have := congrArg List.length hks
          simpa using this
        refine .inl ⟨a0, ks, rfl, hls.sql, hkt, by omega, fun b L hb hLk hkL => ?_⟩
        have hs1 : Same H1 (upd H1 b (SetTO X.prog X.w b L)) := same_upd hb
        have hLt : ∀ r, r ∈ L → SqT X.K (upd H1 b (SetTO X.prog X.w b L)) r.1 (r.2.map V.int) := fun r hr => sqt_stay (A := fun _ => False) (fun b o q _ => hs1 b o q) (hkt r (hLk r hr))
        have hmem : ∀ r, r ∈ L → ∃ p, p ∈ ps ∧ r.2 = [p.1, p.2] := fun r hr => by
          have : r.2 ∈ ks.map (·.2) := List.mem_map.mpr ⟨r, hLk r hr, rfl⟩
          rw [hks] at this
          obtain ⟨p, hp, e⟩ := List.mem_map.mp this
          exact ⟨p, hp, e.symm⟩
        refine .inl ⟨b, L, 2, 64, rfl, upd_same, hLt, by decide, fun r hr => ?_, fun L' c hperm hnd hfew hpw hcn => ?_⟩
        · obtain ⟨p, hp, e⟩ := hmem r hr
          rw [e]
          refine ⟨rfl, fun m hm => ?_⟩
          have := hpos p hp
          simp only [List.mem_cons, List.not_mem_nil, or_false] at hm
          rcases hm with rfl | rfl
          · exact this.1
          · exact this.2
        · -- the pairs of L'
          have hex : ∃ qs : List (Int × Int), L'.map (·.2) = qs.map (fun p => [p.1, p.2]) ∧ ∀ q, q ∈ qs → q ∈ ps := by
            have hL' : ∀ r, r ∈ L' → ∃ p, p ∈ ps ∧ r.2 = [p.1, p.2] := fun r hr => hmem r (hperm.mem_iff.mp hr)
            clear hpw hnd hfew hperm
            induction L' with
            | nil => exact ⟨[], rfl, fun q hq => by cases hq⟩
            | cons r L' ih =>
              obtain ⟨qs, h1, h2⟩ := ih fun r hr => hL' r (List.mem_cons_of_mem _ hr)
              obtain ⟨p, hp, e⟩ := hL' r List.mem_cons_self
              refine ⟨p :: qs, by rw [List.map_cons, e, h1]; rfl, fun q hq => ?_⟩
              rcases List.mem_cons.mp hq with rfl | hq
              · exact hp
              · exact h2 q hq
          obtain ⟨qs, hqs, hqm⟩ := hex
          have hsame : qs = ssP ps := by
            refine sorted_unique ?_ (ssP_sorted ps) fun q => ?_
            · have hle : (L'.map (·.2)).Pairwise (fun x y => TS.code 64 x ≤ TS.code 64 y) := by
                rw [List.pairwise_map]; exact hpw
              rw [hqs] at hle hnd
              rw [List.pairwise_map] at hle
              have hne : qs.Pairwise (fun x y => ([x.1, x.2] : List Int) ≠ [y.1, y.2]) := by
                have := hnd
                rw [List.Nodup, List.pairwise_map] at this
                exact this
              refine (List.Pairwise.and hle hne).imp_of_mem fun {x y} hx hy h => ?_
              obtain ⟨h1, h2⟩ := h
              rw [code_pair, code_pair] at h1
              have bx := hpos x (hqm x hx)
              have by' := hpos y (hqm y hy)
              unfold codeP
              rcases Int.lt_or_eq_of_le h1 with h1 | h1
              · exact h1
              · exfalso
                apply h2
                have e1 : x.1 = y.1 := by omega
                have e2 : x.2 = y.2 := by omega
                rw [e1, e2]
            · rw [mem_ssP hpos]
              refine ⟨hqm q, fun hq => ?_⟩
              have : [q.1, q.2] ∈ ks.map (·.2) := by rw [hks]; exact List.mem_map.mpr ⟨q, hq, rfl⟩
              obtain ⟨r, hr, er⟩ := List.mem_map.mp this
              have h2 := hkL r hr
              obtain ⟨r', hr', er'⟩ := List.mem_map.mp h2
              have h3 : [q.1, q.2] ∈ L'.map (·.2) := List.mem_map.mpr ⟨r', hperm.mem_iff.mpr hr', er'.trans er⟩
              rw [hqs] at h3
              obtain ⟨q', hq', eq'⟩ := List.mem_map.mp h3
              simp only [List.cons.injEq, and_true] at eq'
              have : q' = q := Prod.ext eq'.1 eq'.2
              rw [← this]; exact hq'
          rw [← hsame] at q
          obtain ⟨g1, g2⟩ := lst_new (K := X.K) (A := ExM ex A (lk1 ca)) (H := upd H1 b (SetTO X.prog X.w b L)) (ds := qs.map prD) hcn (fun a z h => by
            have := (S1.ext hs1).exDom _ a z
            exact this h) (prs_reps hqs fun r hr => hLt r (hperm.mem_iff.mp hr))
          refine q _ _ (e1.trans (setO_same hb hcn)) (repT_of g1) fun _ ow => ?_
          obtain ⟨p, ep, np, op, rp⟩ := g2 ow
          exact ⟨p, ep, e1.free (hs1.free np), op, rp⟩
      · cases ho
    · split at ho
      · rename_i ns hns
        split at ho
        · rename_i hl
          cases ho
          obtain ⟨a0, vs, rfl, hls, ka⟩ := r1
          have ev := ints_of ka hns
          subst ev
          refine .inr ⟨a0, ns, rfl, .inl hls.sql, by omega, fun b hb => ?_⟩
          have hs1 : Same H1 (upd H1 b (SetO X.w b (fun j => decide (j ∈ ns)) (ssI ns).length)) := same_upd hb
          refine .inr ⟨b, _, _, rfl, upd_same, ?_, fun ms p hr hm hlen hp => ?_⟩
          · exact Nat.lt_of_le_of_lt (ssI_le ns) hl
          · have hsame : ms = ssI ns := rising_unique hr (ssI_sorted ns) fun k => by rw [hm k, mem_ssI, decide_eq_true_eq]
            subst hsame
            obtain ⟨g1, g2⟩ := lst_new (K := X.K) (A := ExM ex A (lk1 ca)) (H := upd H1 b (SetO X.w b (fun j => decide (j ∈ ns)) (ssI ns).length)) (ds := (ssI ns).map .int) hp (fun a z h => by
              have := (S1.ext hs1).exDom _ a z
              exact this h) (reps_intL _)
            refine q _ _ (e1.trans (setO_same hb hp)) (repT_of g1) fun _ ow => ?_
            obtain ⟨p, ep, np, op, rp⟩ := g2 ow
            exact ⟨p, ep, e1.free (hs1.free np), op, rp⟩
        · cases ho
      · cases ho
theorem ve_lset {p q pos : Pos} (hc : X.calm = true) (hg : Gl X "len") (hm : X.mg "len" = none) (hg2 : Gl X "set") (hm2 : X.mg "set" = none) (hn : notStar a = true) (ha : PE X a (tE X.K W T ca)) {q2 : Pos} :
    PE X (.Call (.Name "len" p) [.Call (.Name "set" q) [a] [] q2] [] pos) (tE X.K W T (.u .lset ca)) :=
  PE.imp (pe_callB cr_lenO hg hm rfl (pa_cons (pe_callTy (cr_setI hc) hg2 hm2 rfl (pa_cons ha pa_nil (star_cons hn)) (by decide) (by decide) (star_cons hn) rfl) pa_nil rfl) (by decide) (by decide) rfl rfl) fun pins s σ H Q I ⟨A, H₀, env, ex, S, p⟩ => by
    simp only [ev, post_bind] at p
    refine part1 S p fun dx x H1 p1 e1 S1 r1 => ?_
    obtain ⟨d, ho, q⟩ := p1.ok_of fun _ => op1_ne
    have key : ∃ (a0 : Addr) (ns : List Int), x = .ref a0 ∧ (SqL X.K H1 a0 (ns.map V.int) ∨ SqT X.K H1 a0 (ns.map V.int)) ∧ ns.length ≤ 1000 ∧ d = .int (ssI ns).length := by
      cases dx <;> first | (simp [op1] at ho; done) | skip
      · simp only [op1] at ho
        split at ho
        · rename_i ns hns
          split at ho
          · rename_i hl
            cases ho
            obtain ⟨a0, vs, rfl, hls, ka⟩ := r1
            have ev := ints_of ka hns
            subst ev
            exact ⟨a0, ns, rfl, .inl hls.sql, hl, rfl⟩
          · cases ho
        · cases ho
      · simp only [op1] at ho
        split at ho
        · rename_i ns hns
          split at ho
          · rename_i hl
            cases ho
            cases r1 with
            | @tup a0 vs _ hls ka =>
              have ev := ints_of ka hns
              subst ev
              exact ⟨a0, ns, rfl, .inr hls, hl, rfl⟩
          · cases ho
        · cases ho
    obtain ⟨a0, ns, rfl, hq, hl, rfl⟩ := key
    refine ⟨a0, ns, rfl, hq, hl, fun b hb => ?_⟩
    exact ⟨b, _, _, rfl, upd_same, q _ _ (e1.trans (same_upd hb)) (repT_atom rfl) fun _ ow => by cases ow⟩
/-! ### list(range(..)), tuple(range(..)) -/
def tRgs (W : Wn) (K : PySem.W.Frag) (T : FT) (ci : CI) : L2.St → Hp → (Int → Int → Hp → Prop) → Prop := fun σ H Q => ∃ A H₀ env ex, SR K A H₀ H env ex σ ∧
  Post W H (rgs T ci env) fun ds => ∀ i j H', Same H H' → RgOk i j → ds = (List.range (j - i).toNat).map (fun k => PyData.int (i + (k : Nat))) → Q i j H'
theorem vr_1 {p : Pos} (hg : Gl X "range") (hm : X.mg "range" = none) (hn : notStar a = true) (ha : PE X a (tE X.K W T ca)) : PRg X (.Call (.Name "range" p) [a] [] pos) (tRgs W X.K T (.rng1 ca)) := fun pins s σ H Q I ⟨A, H₀, env, ex, S, p⟩ =>
  prg_1 hg hm ha (star_cons hn) pins s σ H Q I (by
    simp only [rgs, post_bind] at p
    refine part1 S p fun dx x H1 p1 e1 S1 r1 => ?_
    cases dx <;> first | exact (show False from p1).elim | skip
    rename_i j
    cases r1
    dsimp only at p1
    split at p1
    · rename_i hj
      have hlim : (lim : Int) = 16777216 := rfl
      refine ⟨j, rfl, p1 0 j H1 e1 ⟨by omega, by omega, by omega, by omega, by omega⟩ ?_⟩
      have : (j - 0).toNat = j.toNat := by congr 1; omega
      rw [this]
      exact List.map_congr_left fun k _ => by rw [Int.zero_add]
    · exact (show False from p1).elim)
theorem vr_2 {p : Pos} (hg : Gl X "range") (hm : X.mg "range" = none) (hn : notStar a = true) (hn2 : notStar b = true) (ha : PE X a (tE X.K W T ca)) (hb : PE X b (tE X.K W T cb)) : PRg X (.Call (.Name "range" p) [a, b] [] pos) (tRgs W X.K T (.rng2 ca cb)) := fun pins s σ H Q I ⟨A, H₀, env, ex, S, p⟩ =>
  prg_2 hg hm ha hb (star_cons hn) (star_cons hn2) (star_none (by simp [hn2])) pins s σ H Q I (by
    simp only [rgs, post_bind] at p
    refine part1 S p fun dx x H1 p1 e1 S1 r1 => part1 S1 (p1.ext e1) fun dy y H2 p2 e2 S2 r2 => ?_
    cases dx <;> first | exact (show False from p2).elim | skip
    cases dy <;> first | exact (show False from p2).elim | skip
    rename_i i j
    cases r1
    cases r2
    dsimp only at p2
    split at p2
    · rename_i hj
      have hlim : (lim : Int) = 16777216 := rfl
      exact ⟨i, j, rfl, rfl, p2 i j H2 (e1.trans e2) ⟨by omega, by omega, by omega, by omega, by omega⟩ rfl⟩
    · exact (show False from p2).elim)
theorem reps_rg {K : PySem.W.Frag} {H : Hp} {A : Av} (i j : Int) : Reps K H A ((List.range (j - i).toNat).map (fun k => PyData.int (i + (k : Nat)))) (rgV i j) := by
  unfold rgV
  have key : ∀ l : List Nat, Reps K H A (l.map (fun k => PyData.int (i + (k : Nat)))) (l.map fun k => V.int (i + (k : Nat))) := fun l => by
    induction l with
    | nil => exact .nil
    | cons k l ih => exact .cons (.int _) ih
  exact key _
theorem ve_rgL {e : Expr} {ci : CI} {p : Pos} (hc : X.calm = true) (hg : Gl X "list") (hm : X.mg "list" = none) (hn : notStar e = true) (he : PRg X e (tRgs W X.K T ci)) : PE X (.Call (.Name "list" p) [e] [] pos) (tE X.K W T (.rg false ci)) :=
  PE.imp (pe_listRg hc hg hm he (star_cons hn)) fun pins s σ H Q I ⟨A, H₀, env, ex, S, p⟩ => by
    simp only [ev, post_bind] at p
    refine ⟨A, H₀, env, ex, S, p.imp (Same.refl _) fun ds _ q i j H1 e1 hr hd => ⟨hr, fun l hl => ?_⟩⟩
    subst hd
    have S1 := S.ext e1
    obtain ⟨g1, g2⟩ := lst_new (K := X.K) (A := ExM ex A []) hl (fun a z h => by
      have := S1.exDom _ a z
      exact this h) (reps_rg i j)
    refine q _ _ (e1.trans (same_upd hl)) (repT_of g1) fun _ ow => ?_
    obtain ⟨p, ep, np, op, rp⟩ := g2 ow
    exact ⟨p, ep, e1.free np, op, rp⟩
theorem ve_rgT {e : Expr} {ci : CI} {p : Pos} (hc : X.calm = true) (hg : Gl X "tuple") (hm : X.mg "tuple" = none) (hn : notStar e = true) (he : PRg X e (tRgs W X.K T ci)) : PE X (.Call (.Name "tuple" p) [e] [] pos) (tE X.K W T (.rg true ci)) :=
  PE.imp (pe_tupRg hc hg hm he (star_cons hn)) fun pins s σ H Q I ⟨A, H₀, env, ex, S, p⟩ => by
    simp only [ev, post_bind] at p
    refine ⟨A, H₀, env, ex, S, p.imp (Same.refl _) fun ds _ q i j H1 e1 hr hd => ⟨hr, fun l hl => ?_⟩⟩
    subst hd
    obtain ⟨g1, g2⟩ := tup_new (K := X.K) (A := ExM ex A []) hl (reps_rg i j)
    exact q _ _ (e1.trans (same_upd hl)) (repT_of g1) fun h ow => by cases ow
/-! ### slices -/
/-- a part: left out, or a whole number -/
def tO (K : PySem.W.Frag) (W : Wn) (T : FT) (c : CE) : TO := fun σ H Q => ∃ A H₀ env ex, SR K A H₀ H env ex σ ∧
  Post W H (ev T c env) fun d => ∀ H', Same H H' → ∃ o, partD d = some o ∧ Q o H'
theorem vo_none : PO X none (tO X.K W T (.cn .none)) := ⟨fun pins s σ H Q I ⟨A, H₀, env, ex, S, p⟩ => po_none.run pins s σ H Q I (by
  obtain ⟨o, e, q⟩ := p H (Same.refl _)
  cases e
  exact q)⟩
theorem vo_some (h : PE X e (tE X.K W T ca)) : PO X (some e) (tO X.K W T (.u .ix ca)) := ⟨fun pins s σ H Q I ⟨A, H₀, env, ex, S, p⟩ => (po_some h).run pins s σ H Q I (by
  simp only [ev, post_bind] at p
  refine part1 S p fun dx x H1 p1 e1 S1 r1 => ?_
  cases dx <;> first | exact p1.elim | skip
  rename_i i
  cases r1
  obtain ⟨o, e, q⟩ := p1 H1 e1
  cases e
  exact ⟨i, rfl, q⟩)⟩
theorem ve_sl {lo hi : Option Expr} {cl ch : CE} {p2 : Pos} (ha : PE X a (tE X.K W T ca)) (hl : PO X lo (tO X.K W T cl)) (hh : PO X hi (tO X.K W T ch)) : PE X (.Subscript a (.Slice lo hi none p2) pos) (tE X.K W T (.sl ca cl ch)) :=
  PE.imp (pe_slice slA ha hl hh) fun pins s σ H Q I ⟨A, H₀, env, ex, S, p⟩ => by
    simp only [ev, post_bind] at p
    refine part1 S p fun dx x H1 p1 e1 S1 r1 => ⟨A, H₀, env, ex, S1, p1.imp e1 fun dl _ p2 H2 e2 => ?_⟩
    unfold partR at p2
    cases h1 : partD dl with
    | none => rw [h1] at p2; exact p2.elim
    | some lo' =>
      rw [h1] at p2
      refine ⟨lo', rfl, A, H₀, env, ex, S1.ext e2, (show Post W H (ev T ch env) _ from p2).imp (e1.trans e2) fun dh _ p4 H3 e3 => ?_⟩
      unfold partR at p4
      cases h2 : partD dh with
      | none => rw [h2] at p4; exact p4.elim
      | some hi' =>
        rw [h2] at p4
        obtain ⟨d, ho, q⟩ := (show Post W _ (sliceD dx lo' hi') _ from p4).ok_of fun _ => sliceD_ne
        refine ⟨hi', rfl, _, _, ExM ex A (lk1 ca), dx, d, r1.same (e2.trans e3), fun a z => z, ((S1.ext e2).ext e3).exDom _, ?_, fun v H' e4 r4 n4 => q v H' (((e1.trans e2).trans e3).trans e4) (repT_of r4) fun _ ow => ?_⟩
        · unfold sliceD at ho
          split at ho
          · cases ho; exact .inl ⟨_, rfl, rfl⟩
          · cases ho; exact .inr ⟨_, rfl, rfl⟩
          · cases ho
        · obtain ⟨p, ep, np, op, rp⟩ := n4 rfl ow
          exact ⟨p, ep, ((e1.trans e2).trans e3).free np, op, rp⟩
end
end L3

set_option Elab.async false
set_option linter.all false
set_option maxRecDepth 100000
set_option maxHeartbeats 1000000
/-! calls of own defs, what is walked, comprehensions -/
namespace L3
open PySem PySem.Spec PyProof.Rows L2

/-! ### the promise of a def -/
def spD (K : PySem.W.Frag) (mg : Str → Option Value) (g : List D → R D) (fr : Bool) : Sp := fun vs H Q E => ∃ ds A, Reps K H A ds vs ∧ (∀ a, A a → H a ≠ none) ∧
  match g ds with
  | .ok d => ∀ v H', Same H H' → Rep K H' A d v → (fr = true → Nw K H H' A d v) → Q v H'
  | .exc n => ∀ H' C, Same H H' → mg (Str.ofString n) = some (.ref C) → E (.ref C) none H'
  | .stuck => False
def wx (mg : Str → Option Value) (W : Wn) : WX := fun cls d _ H => ∃ n C, mg (Str.ofString n) = some (.ref C) ∧ cls = .ref C ∧ d = none ∧ W n H
section
variable {X : Cx} {W : Wn} {T : FT}
theorem ve_call {k : Nat} {f : Addr} {fd : FuncData} {ps : List Str} {x : Str} {key : String} {e : Expr} {es : List Expr} {cs : CL} {p pos : Pos}
    (F : FnOk X.prog X.w X.K X.mg X.base (L2.CX X.prog X.w) k f fd ps (spD X.K X.mg (T.f key) (T.fr key))) (hr : Room k X.A) (hg : Gl X x) (hm : X.mg x = some (.ref f)) (hk : PySem.W.keepIn X.K (.ref f) = true) (hb : Binds X.K fd ps [])
    (tk : Takes X (wx X.mg W)) (hdb : (x == ("__debug__" : Str)) = false) (hs : (e :: es).all notStar = true) (ha : PA X (e :: es) (tL X.K W T cs)) : PE X (.Call (.Name x p) (e :: es) [] pos) (tE X.K W T (.call key cs)) := by
  have hs' : notStar e = true ∧ es.all notStar = true := by simpa using hs
  refine PE.imp (pe_callS F hr hg hm hk hb (passAt tk) ha hdb (star_cons hs'.1) (star_none hs'.2)) fun pins s σ H Q I ⟨A, H₀, env, ex, S, p⟩ => ?_
  simp only [ev, post_bind] at p
  refine ⟨A, H₀, env, ex, S, p.imp (Same.refl _) fun ds _ p1 vs H1 e1 r1 => ⟨ds, ExM ex A (lks cs), r1, (S.ext e1).exDom _, ?_⟩⟩
  cases hq : T.f key ds with
  | ok d =>
    rw [hq] at p1
    refine fun v H' e2 r2 n2 => p1 v H' (e1.trans e2) (repT_of r2) fun z ow => ?_
    obtain ⟨p, ep, np, op, rp⟩ := n2 z ow
    exact ⟨p, ep, e1.free np, op, rp⟩
  | exc n =>
    rw [hq] at p1
    exact fun H' C e2 hC => ⟨n, C, hC, rfl, rfl, p1 H' (e1.trans e2)⟩
  | stuck =>
    rw [hq] at p1
    exact p1.elim
end

/-! ### names changed -/
def exF (ex : Nat → Option Addr) (L : List Nat) : Nat → Option Addr := fun i => if i ∈ L then none else ex i
theorem exF_some {ex : Nat → Option Addr} {L : List Nat} {i : Nat} {a : Addr} (h : exF ex L i = some a) : i ∉ L ∧ ex i = some a := by
  unfold exF at h
  split at h
  · cases h
  · exact ⟨by assumption, h⟩
theorem exF_none {ex : Nat → Option Addr} {L : List Nat} {i : Nat} (h : i ∈ L) : exF ex L i = none := by unfold exF; rw [if_pos h]
theorem exF_eq {ex : Nat → Option Addr} {L : List Nat} {i : Nat} (h : i ∉ L) : exF ex L i = ex i := by unfold exF; rw [if_neg h]
theorem ExM.exF_sub {ex : Nat → Option Addr} {A : Av} {L M : List Nat} : ∀ a, ExM (exF ex L) A M a → ExM ex A M a := fun a z => by
  rcases z with z | ⟨i, z, n⟩
  · exact .inl z
  · exact .inr ⟨i, (exF_some z).2, n⟩
/-- what is avoided once L's names are let go -/
theorem ExM.exF_of {ex : Nat → Option Addr} {A : Av} {L : List Nat} : ∀ a, ExM (exF ex L) A [] a → ExM ex A L a := fun a z => by
  rcases z with z | ⟨i, z, n⟩
  · exact .inl z
  · exact .inr ⟨i, (exF_some z).2, (exF_some z).1⟩
section
variable {K : PySem.W.Frag} {A : Av} {H₀ H H' : Hp} {env env' : Env} {ex ex' : Nat → Option Addr} {σ σ' : L2.St}
theorem freeze1_len (i : Nat) (env : Env) : (freeze1 i env).length = env.length := by
  unfold freeze1; split <;> simp
theorem freeze1_get (i j : Nat) (env : Env) : (freeze1 i env)[j]? = if j = i then (env[i]?).map (·.map fun p => (p.1, Fl.fro)) else env[j]? := by
  unfold freeze1
  split
  · rename_i d fl h
    by_cases hj : j = i
    · subst hj
      have hl : j < env.length := (List.getElem?_eq_some_iff.mp h).1
      rw [if_pos rfl, List.getElem?_set_self hl, h]; rfl
    · rw [if_neg hj, List.getElem?_set_ne (Ne.symm hj)]
  · rename_i h
    by_cases hj : j = i
    · subst hj
      rw [if_pos rfl]
      cases hq : env[j]? with
      | none => rfl
      | some o =>
        cases o with
        | none => rfl
        | some p => exact absurd hq (by intro z; exact h p.1 p.2 z)
    · rw [if_neg hj]
theorem freeze_get : ∀ (L : List Nat) (j : Nat) (env : Env), (freeze L env)[j]? = if j ∈ L then (env[j]?).map (·.map fun p => (p.1, Fl.fro)) else env[j]?
  | [], j, env => by simp [freeze]
  | i :: L, j, env => by
    unfold freeze
    rw [freeze_get L j, freeze1_get]
    by_cases h1 : j = i
    · subst h1
      simp only [if_pos, List.mem_cons, true_or]
      split
      · cases env[j]? with
        | none => rfl
        | some o => cases o <;> rfl
      · rfl
    · rw [if_neg h1]
      simp only [List.mem_cons, h1, false_or]
theorem freeze_len : ∀ (L : List Nat) (env : Env), (freeze L env).length = env.length
  | [], _ => rfl
  | i :: L, env => by unfold freeze; rw [freeze_len L, freeze1_len]
/-- a general change of the flags -/
theorem SR.flags (S : SR K A H₀ H env ex σ) (hl : env'.length = env.length) (h1 : ∀ i d fl, env'[i]? = some (some (d, fl)) → ∃ fl', env[i]? = some (some (d, fl')) ∧ (fl = .fro ∨ (fl' ≠ .fro ∧ ex' i = ex i)))
    (h2 : ∀ i a, ex' i = some a → ex i = some a ∧ ∃ d fl, env'[i]? = some (some (d, fl)) ∧ fl ≠ .fro) : SR K A H₀ H env' ex' σ where
  len := S.len.trans hl.symm
  inj := fun i j a x y => S.inj i j a (h2 i a x).1 (h2 j a y).1
  dom := S.dom
  new := fun i a x => S.new i a (h2 i a x).1
  old := fun i a x => S.old i a (h2 i a x).1
  same := S.same
  hasv := fun i a x => (h2 i a x).2
  at_ := fun i d fl h => by
    obtain ⟨fl', e, c⟩ := h1 i d fl h
    obtain ⟨v, e1, r, o⟩ := S.at_ i d fl' e
    have sub : ∀ L a, ExM ex' A L a → ExM ex A L a := fun L a z => by
      rcases z with z | ⟨j, z, n⟩
      · exact .inl z
      · exact .inr ⟨j, (h2 j a z).1, n⟩
    refine ⟨v, e1, r.anti (sub _) (sub _), ?_⟩
    rcases c with c | ⟨nf, ee⟩
    · exact .inl c
    · rcases o with o | ⟨a, x, y, z⟩
      · exact absurd o nf
      · exact .inr ⟨a, x, ee.trans y, z⟩
theorem SR.freeze (S : SR K A H₀ H env ex σ) (L : List Nat) : SR K A H₀ H (freeze L env) (exF ex L) σ := by
  refine S.flags (freeze_len L env) (fun i d fl h => ?_) fun i a h => ?_
  · rw [freeze_get] at h
    split at h
    · rename_i hi
      cases hq : env[i]? with
      | none => rw [hq] at h; cases h
      | some o =>
        rw [hq] at h
        cases o with
        | none => cases h
        | some p => cases h; exact ⟨p.2, rfl, .inl rfl⟩
    · rename_i hi
      refine ⟨fl, h, ?_⟩
      by_cases hf : fl = .fro
      · exact .inl hf
      · exact .inr ⟨hf, exF_eq hi⟩
  · obtain ⟨hi, e⟩ := exF_some h
    obtain ⟨d, fl, e1, nf⟩ := S.hasv i a e
    exact ⟨e, d, fl, by rw [freeze_get, if_neg hi]; exact e1, nf⟩
theorem wipeE_get : ∀ (L : List Nat) (j : Nat) (env : Env), (wipeE env L)[j]? = if j ∈ L then (env[j]?).map (fun _ => none) else env[j]?
  | [], j, env => by simp [wipeE]
  | i :: L, j, env => by
    unfold wipeE
    by_cases h1 : j = i
    · subst h1
      simp only [List.mem_cons, true_or, if_true]
      rw [List.getElem?_set]
      simp only [if_true]
      have : (wipeE env L).length = env.length := by
        induction L with
        | nil => rfl
        | cons i L ih => unfold wipeE; rw [List.length_set, ih]
      rw [this]
      by_cases hl : j < env.length
      · rw [if_pos hl]
        simp [List.getElem?_eq_getElem hl]
      · rw [if_neg hl]
        simp [List.getElem?_eq_none (Nat.le_of_not_lt hl)]
    · simp only [List.mem_cons, h1, false_or]
      rw [List.getElem?_set_ne (Ne.symm h1), wipeE_get L j]
theorem wipe_get : ∀ (L : List Nat) (j : Nat) (σ : L2.St), j ∉ L → (wipe σ L)[j]? = σ[j]?
  | [], j, σ, _ => rfl
  | i :: L, j, σ, h => by
    simp only [List.mem_cons, not_or] at h
    unfold wipe
    rw [List.getElem?_set_ne (Ne.symm h.1), wipe_get L j σ h.2]
theorem wipeE_len : ∀ (L : List Nat) (env : Env), (wipeE env L).length = env.length
  | [], _ => rfl
  | i :: L, env => by unfold wipeE; rw [List.length_set, wipeE_len L]
def wA (ex : Nat → Option Addr) (L : List Nat) (A : Av) : Av := fun a => A a ∨ ∃ j, j ∈ L ∧ ex j = some a
theorem wA_sub {L : List Nat} {i : Nat} (hi : i ∉ L) : ∀ a, ExM (exF ex L) (wA ex L A) [i] a → ExM ex A [i] a := fun a z => by
  rcases z with (z | ⟨j, hj, z⟩) | ⟨j, z, n⟩
  · exact .inl z
  · exact .inr ⟨j, z, fun m => hi (by simp at m; rw [← m]; exact hj)⟩
  · exact .inr ⟨j, (exF_some z).2, n⟩
theorem wA_sub0 {L : List Nat} : ∀ a, ExM (exF ex L) (wA ex L A) [] a → ExM ex A [] a := fun a z => by
  rcases z with (z | ⟨j, hj, z⟩) | ⟨j, z, n⟩
  · exact .inl z
  · exact .inr ⟨j, z, by simp⟩
  · exact .inr ⟨j, (exF_some z).2, n⟩
theorem SR.wipe (S : SR K A H₀ H env ex σ) (L : List Nat) : SR K (wA ex L A) H₀ H (wipeE env L) (exF ex L) (L2.wipe σ L) where
  len := by rw [wipe_length, wipeE_len]; exact S.len
  inj := fun i j a x y => S.inj i j a (exF_some x).2 (exF_some y).2
  dom := fun a z => by
    rcases z with z | ⟨j, _, z⟩
    · exact S.dom a z
    · exact S.exSome z
  new := fun i a x z => by
    rcases z with z | ⟨j, hj, z⟩
    · exact S.new i a (exF_some x).2 z
    · exact (exF_some x).1 (by rw [S.inj i j a (exF_some x).2 z]; exact hj)
  old := fun i a x => S.old i a (exF_some x).2
  same := S.same
  hasv := fun i a x => by
    obtain ⟨d, fl, e1, nf⟩ := S.hasv i a (exF_some x).2
    exact ⟨d, fl, by rw [wipeE_get, if_neg (exF_some x).1]; exact e1, nf⟩
  at_ := fun i d fl h => by
    rw [wipeE_get] at h
    split at h
    · cases hq : env[i]? with
      | none => rw [hq] at h; cases h
      | some o => rw [hq] at h; cases h
    · rename_i hi
      obtain ⟨v, e1, r, o⟩ := S.at_ i d fl h
      exact ⟨v, by rw [wipe_get L i σ hi]; exact e1, r.anti (wA_sub hi) wA_sub0, o.imp id fun ⟨a, x, y, z⟩ => ⟨a, x, by rw [exF_eq hi]; exact y, z⟩⟩
/-- a name gets a value that is nobody's own -/
theorem SR.setF {i : Nat} {d : D} {v : V} (S : SR K A H₀ H env ex σ) (hi : i < env.length) (r : Rep K H (ExM (exF ex [i]) A []) d v) : SR K A H₀ H (env.set i (some (d, .fro))) (exF ex [i]) (σ.set i (some v)) where
  len := by rw [List.length_set, List.length_set]; exact S.len
  inj := fun i j a x y => S.inj i j a (exF_some x).2 (exF_some y).2
  dom := S.dom
  new := fun i a x => S.new i a (exF_some x).2
  old := fun i a x => S.old i a (exF_some x).2
  same := S.same
  hasv := fun j a x => by
    obtain ⟨d, fl, e1, nf⟩ := S.hasv j a (exF_some x).2
    have hj : i ≠ j := fun e => (exF_some x).1 (by simp [e])
    exact ⟨d, fl, by rw [List.getElem?_set_ne hj]; exact e1, nf⟩
  at_ := fun j d' fl h => by
    by_cases hj : i = j
    · subst hj
      rw [List.getElem?_set_self hi] at h
      cases h
      exact ⟨v, List.getElem?_set_self (by rw [S.len]; exact hi), (repT_of r).anti (ExM.sub (fun _ h => by cases h)) fun _ z => z, .inl rfl⟩
    · rw [List.getElem?_set_ne hj] at h
      obtain ⟨v', e1, r', o⟩ := S.at_ j d' fl h
      exact ⟨v', by rw [List.getElem?_set_ne hj]; exact e1, r'.anti ExM.exF_sub ExM.exF_sub, o.imp id fun ⟨a, x, y, z⟩ => ⟨a, x, by rw [exF_eq (by simp; exact fun e => hj e.symm)]; exact y, z⟩⟩
end
theorem wipe_comm (σ : L2.St) (i : Nat) (L : List Nat) (x : Option V) (h : i ∈ L) : wipe (σ.set i x) L = wipe σ L := by
  apply List.ext_getElem?
  intro j
  by_cases hj : j ∈ L
  · have a : ∀ τ : L2.St, (wipe τ L)[j]? = (τ[j]?).map fun _ => none := by
      intro τ
      clear h
      induction L with
      | nil => simp at hj
      | cons k L ih =>
        unfold wipe
        by_cases e : k = j
        · subst e
          rw [List.getElem?_set]
          simp only [if_true, wipe_length]
          by_cases hl : k < τ.length
          · rw [if_pos hl]; simp [List.getElem?_eq_getElem hl]
          · rw [if_neg hl]; simp [List.getElem?_eq_none (Nat.le_of_not_lt hl)]
        · rw [List.getElem?_set_ne e]
          exact ih (by simpa [Ne.symm e] using hj)
    rw [a, a, List.getElem?_set]
    by_cases e : i = j
    · subst e
      rw [if_pos rfl]
      by_cases hl : i < σ.length
      · rw [if_pos hl]; simp [List.getElem?_eq_getElem hl]
      · rw [if_neg hl]; simp [List.getElem?_eq_none (Nat.le_of_not_lt hl)]
    · rw [if_neg e]
  · rw [wipe_get L j _ hj, wipe_get L j _ hj, List.getElem?_set_ne (fun e : i = j => hj (by rw [← e]; exact h))]
theorem wipe_wipe (σ : L2.St) (L : List Nat) : ∀ M : List Nat, (∀ i ∈ M, i ∈ L) → wipe (wipe σ M) L = wipe σ L
  | [], _ => rfl
  | m :: M, h => by
    show wipe ((wipe σ M).set m none) L = wipe σ L
    rw [wipe_comm _ _ _ _ (h m List.mem_cons_self)]
    exact wipe_wipe σ L M fun i hi => h i (List.mem_cons_of_mem _ hi)

/-! ### targets -/
def tgS : Tg → List Nat
  | .one i => [i]
  | .tup is => is
  | .pr i is => i :: is
def gNs : List Nat → TGs
  | [] => gNil
  | i :: is => gCons (gName i) (gNs is)
def gT (K : PySem.W.Frag) : Tg → TG
  | .one i => gName i
  | .tup is => gTup K is.length (gNs is)
  | .pr i is => gTup K 2 (gCons (gName i) (gCons (gTup K is.length (gNs is)) gNil))
theorem bindTs_len : ∀ {is : List Nat} {ds : List D} {env e : Env}, bindTs is ds env = some e → is.length = ds.length
  | [], [], _, _, _ => rfl
  | [], _ :: _, _, _, h => by simp [bindTs] at h
  | _ :: _, [], _, _, h => by simp [bindTs] at h
  | i :: is, d :: ds, env, e, h => by
    simp only [bindTs] at h
    split at h
    · simp [bindTs_len h]
    · cases h
section
variable {K : PySem.W.Frag} {A : Av} {H₀ H : Hp}
theorem exF_exF {ex : Nat → Option Addr} {L M : List Nat} : exF (exF ex L) M = exF ex (M ++ L) := by
  funext i
  unfold exF
  by_cases h1 : i ∈ M <;> by_cases h2 : i ∈ L <;> simp [h1, h2]
theorem exF_congr {ex : Nat → Option Addr} {L M : List Nat} (h : ∀ i, i ∈ L ↔ i ∈ M) : exF ex L = exF ex M := by
  funext i
  unfold exF
  by_cases h1 : i ∈ L
  · rw [if_pos h1, if_pos ((h i).mp h1)]
  · rw [if_neg h1, if_neg fun z => h1 ((h i).mpr z)]
theorem bind_ns : ∀ {is : List Nat} {ds : List D} {vs : List V} {env e : Env} {ex : Nat → Option Addr} {σ : L2.St} {Q : L2.St → Hp → Prop}, bindTs is ds env = some e → SR K A H₀ H env ex σ → Reps K H (ExM ex A []) ds vs →
    (∀ σ', SR K A H₀ H e (exF ex is) σ' → (∀ L, (∀ i ∈ is, i ∈ L) → wipe σ' L = wipe σ L) → Q σ' H) → gNs is vs σ H Q
  | [], [], _, env, e, ex, σ, Q, hb, S, r, q => by
    cases r
    simp only [bindTs] at hb
    cases hb
    refine ⟨rfl, q σ ?_ fun _ _ => rfl⟩
    have : exF ex [] = ex := by funext i; simp [exF]
    rw [this]; exact S
  | [], _ :: _, _, _, _, _, _, _, hb, _, _, _ => by simp [bindTs] at hb
  | _ :: _, [], _, _, _, _, _, _, hb, _, _, _ => by simp [bindTs] at hb
  | i :: is, d :: ds, _, env, e, ex, σ, Q, hb, S, r, q => by
    cases r with
    | @cons _ _ v vs r1 r2 =>
      simp only [bindTs] at hb
      split at hb
      · rename_i hi
        have hee : exF (exF ex [i]) is = exF ex (i :: is) := by rw [exF_exF]; exact exF_congr fun j => by simp [or_comm]
        have S1 := S.setF hi (r1.anti ExM.exF_sub)
        refine ⟨v, vs, rfl, bind_ns hb S1 (r2.anti ExM.exF_sub) fun σ' S' w => q σ' (hee ▸ S') fun L hL => ?_⟩
        rw [w L fun j hj => hL j (List.mem_cons_of_mem _ hj), wipe_comm _ _ _ _ (hL i List.mem_cons_self)]
      · cases hb
theorem bind_t {tg : Tg} {d : D} {v : V} {env e : Env} {ex : Nat → Option Addr} {σ : L2.St} {Q : L2.St → Hp → Prop} (hb : bindT tg d env = .ok e) (S : SR K A H₀ H env ex σ) (r : Rep K H (ExM ex A []) d v)
    (q : ∀ σ', SR K A H₀ H e (exF ex (tgS tg)) σ' → (∀ L, (∀ i ∈ tgS tg, i ∈ L) → wipe σ' L = wipe σ L) → Q σ' H) : gT K tg v σ H Q := by
  cases tg with
  | one i =>
    simp only [bindT] at hb
    split at hb
    · rename_i hi
      cases hb
      exact q _ (S.setF hi (r.anti ExM.exF_sub)) fun L hL => wipe_comm _ _ _ _ (hL i (by simp [tgS]))
    · cases hb
  | tup is =>
    cases d <;> first | (simp [bindT] at hb; done) | skip
    rename_i ds
    simp only [bindT] at hb
    split at hb
    · rename_i e' h
      cases hb
      cases r with
      | @tup a vs _ ha ka =>
        have hl : is.length = ds.length := by
          clear q ka S
          induction is generalizing ds env with
          | nil => cases ds with
            | nil => rfl
            | cons _ _ => simp [bindTs] at h
          | cons i is ih => cases ds with
            | nil => simp [bindTs] at h
            | cons d ds =>
              simp only [bindTs] at h
              split at h
              · simp [ih ds h]
              · cases h
        exact ⟨a, vs, rfl, ha, by rw [← ka.length, hl], bind_ns h S ka q⟩
    · cases hb
  | pr i is =>
    unfold bindT at hb
    split at hb <;> first | (cases hb; done) | skip
    · rename_i hq; cases hq
    · rename_i hq; cases hq
    · rename_i i' is' d ds hq
      cases hq
      split at hb
      · rename_i hi
        split at hb
        · rename_i e' h
          cases hb
          cases r with
          | @tup a vs _ ha ka =>
            cases ka with
            | @cons _ _ v1 vs1 r1 k1 =>
              cases k1 with
              | @cons _ _ v2 vs2 r2 k2 =>
                cases k2
                cases r2 with
                | @tup b us _ hb kb =>
                  have hee : exF (exF ex [i]) is = exF ex (i :: is) := by rw [exF_exF]; exact exF_congr fun j => by simp [or_comm]
                  have S1 := S.setF hi (r1.anti ExM.exF_sub)
                  refine ⟨a, [v1, .ref b], rfl, ha, rfl, v1, [.ref b], rfl, ⟨.ref b, [], rfl, ⟨b, us, rfl, hb, by rw [← kb.length, bindTs_len h], bind_ns h S1 (kb.anti ExM.exF_sub) fun σ' S' w => ⟨rfl, q σ' (hee ▸ S') fun L hL => ?_⟩⟩⟩⟩
                  rw [w L fun j hj => hL j (List.mem_cons_of_mem _ hj), wipe_comm _ _ _ _ (hL i List.mem_cons_self)]
        · cases hb
      · cases hb
theorem bindT_ne {tg : Tg} {d : D} {env : Env} {n : String} : bindT tg d env ≠ .exc n := by
  unfold bindT
  split
  · split <;> (intro h; cases h)
  · split <;> (intro h; cases h)
  · split
    · split <;> (intro h; cases h)
    · intro h; cases h
  · intro h; cases h
end

/-! ### what is walked -/
/-- the iterator J tells ds, as long as what is not avoided stays -/
structure Walk (K : PySem.W.Frag) (J : It) (B0 B : Av) (H : Hp) (ds : List D) : Prop where
  len : ds.length ≤ sizeLine
  go : ∀ H', (∀ b o, H b = some o → (¬ B0 b ∨ tupo o = true) → H' b = some o) → ∀ i, i < ds.length → J.go i H'
  yld : ∀ H', (∀ b o, H b = some o → (¬ B0 b ∨ tupo o = true) → H' b = some o) → ∀ i x H'', i < ds.length → J.yld i H' x H'' → Same H' H'' ∧ ∃ d, ds[i]? = some d ∧ ∀ B', (∀ a, B' a → B a ∨ H a = none) → Rep K H'' B' d x
  stop : ∀ H', (∀ b o, H b = some o → (¬ B0 b ∨ tupo o = true) → H' b = some o) → J.stop ds.length H'
section
variable {K : PySem.W.Frag} {H : Hp} {B0 B : Av} {a : Addr} {vs : List V} {ds : List D}
theorem sql_stay {H' : Hp} (hs : ∀ b o, H b = some o → (¬ B0 b ∨ tupo o = true) → H' b = some o) (h : LsR K H B0 a vs) : SqL K H' a vs := (ls_stay hs (fun _ z => .inl z) h).sql
/-- what the two readings of one list tell (without the state) -/
theorem walk_list (hl : vs.length ≤ sizeLine) (h : LsR K H B0 a vs) (hb : ∀ x, B0 x → B x) (r : Reps K H B ds vs) : Walk K (Itl K a) B0 B H ds where
  len := by rw [r.length]; exact hl
  go := fun H' hs i hi => by
    have hi' : i < vs.length := by rw [← r.length]; exact hi
    exact ⟨vs, vs[i], sql_stay hs h, by simp [hi']⟩
  yld := fun H' hs i x H'' hi y => by
    obtain ⟨e, y⟩ := y
    subst e
    refine ⟨Same.refl _, ds[i], by simp [hi], fun B' hB => ?_⟩
    obtain ⟨v, e1, r1⟩ := r.get (i := i) (d := ds[i]) (by simp [hi])
    have e2 := y vs (sql_stay hs h)
    rw [e1] at e2; cases e2
    exact Rep.stay (fun b o q z => hs b o q (z.imp (fun n m => n (hb b m)) id)) hB _ _ r1
  stop := fun H' hs => ⟨vs, sql_stay hs h, by rw [r.length]; exact Nat.le_refl _⟩
theorem walk_tup (hl : vs.length ≤ sizeLine) (h : SqT K H a vs) (hb : ∀ x, B0 x → B x) (r : Reps K H B ds vs) : Walk K (Itt K a) B0 B H ds where
  len := by rw [r.length]; exact hl
  go := fun H' hs i hi => by
    have hi' : i < vs.length := by rw [← r.length]; exact hi
    exact ⟨vs, vs[i], sqt_stay hs h, by simp [hi']⟩
  yld := fun H' hs i x H'' hi y => by
    obtain ⟨e, y⟩ := y
    subst e
    refine ⟨Same.refl _, ds[i], by simp [hi], fun B' hB => ?_⟩
    obtain ⟨v, e1, r1⟩ := r.get (i := i) (d := ds[i]) (by simp [hi])
    have e2 := y vs (sqt_stay hs h)
    rw [e1] at e2; cases e2
    exact Rep.stay (fun b o q z => hs b o q (z.imp (fun n m => n (hb b m)) id)) hB _ _ r1
  stop := fun H' hs => ⟨vs, sqt_stay hs h, by rw [r.length]; exact Nat.le_refl _⟩
theorem walk_rng {lo : Int} {n : Nat} (hn : n ≤ sizeLine) : Walk K (Itr lo n) B0 B H ((List.range n).map fun k => PyData.int (lo + (k : Nat))) where
  len := by simpa using hn
  go := fun H' hs i hi => (show i < n by simpa using hi)
  yld := fun H' hs i x H'' hi y => by
    obtain ⟨e, y⟩ := y
    subst e y
    have hi' : i < n := by simpa using hi
    exact ⟨Same.refl _, .int (lo + (i : Nat)), by simp [hi'], fun B' hB => .int _⟩
  stop := fun H' hs => by show n ≤ _; simp
end
def tI (K : PySem.W.Frag) (W : Wn) (T : FT) (ci : CI) : TI := fun σ H R => ∃ A H₀ env ex, SR K A H₀ H env ex σ ∧
  Post W H (its T ci env) fun ds => ∀ J H', Same H H' → Walk K J (ExM ex A (lkI0 ci)) (ExM ex A (lkI ci)) (rt H') ds → R J H'
section
variable {X : Cx} {W : Wn} {T : FT} {tg : Expr}
theorem PI.imp {iter : Expr} {t t' : TI} (h : PI X tg iter t) (hi : ∀ pins s σ H Q, Inv X pins σ H s → t' σ H Q → t σ H Q) : PI X tg iter t' :=
  ⟨fun pins s σ H Q I q => h.run pins s σ H Q I (hi pins s σ H Q I q)⟩
/-- a list or a tuple, as it comes -/
def iSeq (K : PySem.W.Frag) (tl : TE) : TI := fun σ H R => tl σ H fun x H1 => ∃ a, x = .ref a ∧ ((∃ xs, SqL K H1 a xs ∧ (xs.length ≤ sizeLine → R (Itl K a) H1)) ∨ (∃ xs, SqT K H1 a xs ∧ (xs.length ≤ sizeLine → R (Itt K a) H1)))
theorem pi_seq {l : Expr} {tl : TE} (hl : PE X l tl) : PI X tg l (iSeq X.K tl) := by
  refine ⟨fun pins s σ H R I h => ?_⟩
  refine thn (hl.run pins s σ H _ I h) fun v s1 ⟨x, H1, I1, r1, q1⟩ => ?_
  obtain ⟨a, e, q⟩ := q1
  subst e
  cases r1
  rcases q with ⟨xs, hq, q⟩ | ⟨xs, hq, q⟩
  · obtain ⟨its, rv, p, hz⟩ := I1.list hq
    refine wpAny_pyIter_list p.isList ?_
    refine ⟨s1.heap.objs.size, [s1.heap.objs.size], _, _, H1, rfl, I1.kept (t' := s1.toks) fun b o e => Heap.get?_push_of_some _ e, turn_list a _, ⟨_, Heap.get?_push_size _ rfl, rfl, rfl⟩, fun b hb => ?_, q hz⟩
    have e : b = s1.heap.objs.size := by simpa using hb
    subst e
    exact I1.fpOk (Nat.le_refl _) (I1.hok.fresh (Nat.le_refl _))
  · obtain ⟨its, rv, p, hz⟩ := I1.tuple hq
    refine wpAny_pyIter_tuple (show s1.heap.IsTuple a its.toArray from p) ?_
    refine ⟨s1.heap.objs.size, [s1.heap.objs.size], _, _, H1, rfl, I1.kept (t' := s1.toks) fun b o e => Heap.get?_push_of_some _ e, turn_tuple a _, ⟨_, Heap.get?_push_size _ rfl, rfl, rfl⟩, fun b hb => ?_, q hz⟩
    have e : b = s1.heap.objs.size := by simpa using hb
    subst e
    exact I1.fpOk (Nat.le_refl _) (I1.hok.fresh (Nat.le_refl _))
theorem vi_seq {l : Expr} {c : CE} (h : PE X l (tE X.K W T c)) : PI X tg l (tI X.K W T (.seq c)) :=
  PI.imp (pi_seq h) fun pins s σ H R I ⟨A, H₀, env, ex, S, p⟩ => by
    simp only [its, post_bind] at p
    refine part1 S p fun d x H1 p1 e1 S1 r1 => ?_
    cases d <;> first | exact p1.elim | skip
    · obtain ⟨a, vs, rfl, ha, ka⟩ := r1
      exact ⟨a, rfl, .inl ⟨vs, ha.sql, fun hz => p1 _ H1 e1 (walk_list hz ha.rt (ExM.sub (lk1_lk0 c)) (Reps.rt _ _ ka))⟩⟩
    · cases r1 with
      | @tup a vs _ ha ka => exact ⟨a, rfl, .inr ⟨vs, ha, fun hz => p1 _ H1 e1 (walk_tup hz (sqT_rt ha) (ExM.sub (lk1_lk0 c)) (Reps.rt _ _ ka))⟩⟩
theorem vi_rng1 {a : Expr} {ca : CE} {p pos : Pos} (hg : Gl X "range") (hm : X.mg "range" = none) (hn : notStar a = true) (ha : PE X a (tE X.K W T ca)) : PI X tg (.Call (.Name "range" p) [a] [] pos) (tI X.K W T (.rng1 ca)) :=
  PI.imp (pi_range1 hg hm (pa_cons ha pa_nil (star_cons hn)) (star_cons hn)) fun pins s σ H R I ⟨A, H₀, env, ex, S, p⟩ => by
    simp only [its, post_bind] at p
    refine part1 S p fun d x H1 p1 e1 S1 r1 => ?_
    cases d <;> first | exact p1.elim | skip
    rename_i j
    cases r1
    dsimp only at p1
    split at p1
    · rename_i hj
      obtain ⟨h1, h2⟩ := hj
      have hlim : (lim : Int) = 16777216 := rfl
      have hz : j.toNat ≤ sizeLine := by rw [← lim_eq]; omega
      refine ⟨j, rfl, h1, by omega, p1 _ H1 e1 ?_⟩
      have := walk_rng (K := X.K) (H := rt H1) (B0 := ExM ex A (lkI0 (.rng1 ca))) (B := ExM ex A (lkI (.rng1 ca))) (lo := 0) hz
      simpa using this
    · exact p1.elim
theorem vi_rng2 {a b : Expr} {ca cb : CE} {p pos : Pos} (hg : Gl X "range") (hm : X.mg "range" = none) (hn : notStar a = true) (hn2 : notStar b = true) (ha : PE X a (tE X.K W T ca)) (hb : PE X b (tE X.K W T cb)) : PI X tg (.Call (.Name "range" p) [a, b] [] pos) (tI X.K W T (.rng2 ca cb)) :=
  PI.imp (pi_range2 hg hm (pa_cons ha (pa_cons hb pa_nil (star_cons hn2)) (star_cons hn)) (by rw [star_cons hn, star_cons hn2]; rfl) (star_cons hn2)) fun pins s σ H R I ⟨A, H₀, env, ex, S, p⟩ => by
    simp only [its, post_bind] at p
    refine part1 S p fun d x H1 p1 e1 S1 r1 => part1 S1 (p1.ext e1) fun d2 y H2 p2 e2 S2 r2 => ?_
    cases d <;> first | exact p2.elim | skip
    cases d2 <;> first | exact p2.elim | skip
    rename_i i j
    cases r1
    cases r2
    dsimp only at p2
    split at p2
    · rename_i hj
      obtain ⟨h1, h2, h3, h4, h5⟩ := hj
      have hlim : (lim : Int) = 16777216 := rfl
      have hz : (j - i).toNat ≤ sizeLine := by rw [← lim_eq]; omega
      exact ⟨i, j, rfl, ⟨h1, h2, h3, h4⟩, p2 _ H2 (e1.trans e2) (walk_rng hz)⟩
    · exact p2.elim

/-! ### comprehensions -/
theorem lcLoop_ne {f : D → R (Option D)} (hf : ∀ d n, f d ≠ .exc n) : ∀ (ds : List D) (n : String), lcLoop f ds ≠ .exc n
  | [], n => by intro h; cases h
  | d :: ds, n => by
    unfold lcLoop
    cases h : f d with
    | ok x =>
      cases h2 : lcLoop f ds with
      | ok r => intro z; cases z
      | exc m => exact absurd h2 (lcLoop_ne hf ds m)
      | stuck => intro z; cases z
    | exc m => exact absurd h (hf d m)
    | stuck => intro z; cases z
theorem nox_ne {α : Type} {r : R α} {n : String} : r.nox ≠ .exc n := by
  cases r <;> (intro h; cases h)
theorem bind_ne {α β : Type} {r : R α} {f : α → R β} {n : String} (h1 : ∀ n, r ≠ .exc n) (h2 : ∀ a, f a ≠ .exc n) : r.bind f ≠ .exc n := by
  cases r with
  | ok a => exact h2 a
  | exc m => exact absurd rfl (h1 m)
  | stuck => intro h; cases h
/-- a turn's own reckoning -/
def lcF (T : FT) (tg : Tg) (cond elt : CE) (env0 : Env) (d : D) : R (Option D) :=
  (bindT tg d env0).bind fun e => (ev T cond e).nox.bind fun c => match c with
    | .bool true => (ev T elt e).nox.bind fun y => .ok (some y)
    | .bool false => .ok none
    | _ => .stuck
theorem lcF_ne {T : FT} {tg : Tg} {cond elt : CE} {env0 : Env} {d : D} {n : String} : lcF T tg cond elt env0 d ≠ .exc n := by
  refine bind_ne (fun _ => bindT_ne) fun e => bind_ne (fun _ => nox_ne) fun c => ?_
  split
  · exact bind_ne (fun _ => nox_ne) fun y => by intro h; cases h
  · intro h; cases h
  · intro h; cases h
def W0 : Wn := fun _ _ => False
theorem nox_post {α : Type} {r : R α} {P : α → Prop} {W : Wn} {H : Hp} {a : α} (h : r.nox = .ok a) (hp : P a) : Post W H r P := by
  cases r with
  | ok b => cases h; exact hp
  | exc n => cases h
  | stuck => cases h
theorem lc_imp {own : List Nat} {tgc : Tg} {ci : CI} {cond elt : CE} (hown : ∀ i, i ∈ tgS tgc ↔ i ∈ own) {σ : L2.St} {H : Hp} {Q : VK}
    (h : tE X.K W T (.lc own tgc ci cond elt) σ H Q) : tLc (tI X.K W T ci) (gT X.K tgc) (tT X.K W0 T cond) (tE X.K W0 T elt) own σ H Q := by
  obtain ⟨A, H₀, env, ex, S, p⟩ := h
  simp only [ev, post_bind] at p
  refine ⟨A, H₀, env, ex, S, p.imp (Same.refl _) fun ds _ p1 J H1 e1 wk D hD => ?_⟩
  obtain ⟨r, hr, q⟩ := p1.ok_of (lcLoop_ne (f := lcF T tgc cond elt (wipeE (freeze (lkI ci) env) own)) (fun d n => lcF_ne) ds)
  have hr : lcLoop (lcF T tgc cond elt (wipeE (freeze (lkI ci) env) own)) ds = .ok r := hr
  have S1 := S.ext e1
  have hlen := wk.len
  -- the frame of a turn
  let A' : Av := fun a => A a ∨ a = D
  have dom' : ∀ H', H' D ≠ none → Same H1 H' → ∀ a, A' a → H' a ≠ none := fun H' h1 h2 a z => by
    rcases z with z | z
    · exact fun q => S1.dom a z (h2.free q)
    · rw [z]; exact h1
  -- what is kept: all that stood at H1
  let Inv0 : Nat → Hp → Prop := fun i H' => i ≤ ds.length ∧ Same H1 H' ∧ ∃ acc rest vs, H' D = some (.lst vs) ∧ lcLoop (lcF T tgc cond elt (wipeE (freeze (lkI ci) env) own)) (ds.drop i) = .ok rest ∧ r = acc ++ rest ∧ acc.length ≤ i ∧
    Reps X.K H' (fun a => ExM ex A (lkI ci ++ lk0 elt) a ∨ a = D) acc vs
  refine ⟨fun i m H' => m = ds.length - i ∧ Inv0 i H', ⟨ds.length, by simp, Nat.zero_le _, same_upd hD, [], r, [], upd_same, by simpa using hr, rfl, Nat.le_refl _, .nil⟩, ?_⟩
  rintro i m H2 ⟨rfl, hi, e2, acc, rest, vs, hDv, hrest, hrr, hacc, hk⟩
  have stay : ∀ {P : Addr → HO → Prop}, ∀ b o, rt H1 b = some o → P b o → H2 b = some o := fun b o h _ => e2 b o (rt_some h).1
  by_cases hlt : i < ds.length
  · refine .inr ⟨wk.go H2 stay i hlt, Inv0 (i + 1), fun H' hI => ⟨ds.length - (i + 1), by omega, rfl, hI⟩, fun x H3 hy => ?_⟩
    obtain ⟨e3, d, hd, rd⟩ := wk.yld H2 stay i x H3 hlt hy
    have hdrop : ds.drop i = d :: ds.drop (i + 1) := by
      rw [List.drop_eq_getElem_cons hlt]
      congr 1
      rw [List.getElem?_eq_getElem hlt] at hd
      exact Option.some.inj hd
    rw [hdrop] at hrest
    unfold lcLoop at hrest
    obtain ⟨x1, hx1, rest', hrest', hre⟩ : ∃ x1, lcF T tgc cond elt (wipeE (freeze (lkI ci) env) own) d = .ok x1 ∧ ∃ rest', lcLoop (lcF T tgc cond elt (wipeE (freeze (lkI ci) env) own)) (ds.drop (i + 1)) = .ok rest' ∧ rest = (match x1 with | some y => y :: rest' | none => rest') := by
      cases h1 : lcF T tgc cond elt (wipeE (freeze (lkI ci) env) own) d with
      | ok x1 =>
        rw [h1] at hrest
        cases h2 : lcLoop (lcF T tgc cond elt (wipeE (freeze (lkI ci) env) own)) (ds.drop (i + 1)) with
        | ok r' =>
          rw [h2] at hrest
          exact ⟨x1, rfl, r', rfl, (ok_inj hrest).symm⟩
        | exc n => rw [h2] at hrest; cases hrest
        | stuck => rw [h2] at hrest; cases hrest
      | exc n => rw [h1] at hrest; cases hrest
      | stuck => rw [h1] at hrest; cases hrest
    unfold lcF at hx1
    obtain ⟨e, he, hx2⟩ : ∃ e, bindT tgc d (wipeE (freeze (lkI ci) env) own) = .ok e ∧ ((ev T cond e).nox.bind fun c => match c with
        | .bool true => (ev T elt e).nox.bind fun y => .ok (some y)
        | .bool false => .ok none
        | _ => .stuck) = .ok x1 := by
      cases h1 : bindT tgc d (wipeE (freeze (lkI ci) env) own) with
      | ok e => rw [h1] at hx1; exact ⟨e, rfl, hx1⟩
      | exc n => rw [h1] at hx1; cases hx1
      | stuck => rw [h1] at hx1; cases hx1
    have hD3 : H3 D = some (.lst vs) := e3 _ _ hDv
    have S3 : SR X.K (wA (exF ex (lkI ci)) own A') H₀ H3 (wipeE (freeze (lkI ci) env) own) (exF (exF ex (lkI ci)) own) (wipe σ own) :=
      ((S1.more (A' := A') (fun a z => z.imp id fun h => by rw [h]; exact hD) (e2.trans e3) (dom' H3 (by rw [hD3]; simp) (e2.trans e3))).freeze (lkI ci)).wipe own
    refine bind_t he S3 (rd _ fun a z => ?_) fun σ2 S4 hw => ⟨by rw [hw own fun i h => (hown i).mp h, wipe_wipe _ _ _ fun i h => h], ?_⟩
    · rcases z with (z | ⟨j, _, z⟩) | z
      · rcases z with z | z
        · exact .inl (.inl z)
        · rw [z]; exact .inr (rt_none hD)
      · obtain ⟨n2, z2⟩ := exF_some z
        exact .inl (.inr ⟨j, z2, n2⟩)
      · obtain ⟨j, z, _⟩ := z
        obtain ⟨n1, z1⟩ := exF_some z
        obtain ⟨n2, z2⟩ := exF_some z1
        exact .inl (.inr ⟨j, z2, n2⟩)
    · obtain ⟨c, hc, hx3⟩ : ∃ c, (ev T cond e).nox = .ok c ∧ (match c with
          | .bool true => (ev T elt e).nox.bind fun y => .ok (some y)
          | .bool false => .ok none
          | _ => .stuck) = .ok x1 := by
        cases h1 : (ev T cond e).nox with
        | ok c => rw [h1] at hx2; exact ⟨c, rfl, hx2⟩
        | exc n => rw [h1] at hx2; cases hx2
        | stuck => rw [h1] at hx2; cases hx2
      cases c <;> first | (cases hx3; done) | skip
      rename_i b
      refine ⟨_, H₀, e, _, S4, nox_post hc ⟨b, rfl, fun H4 e4 => ?_⟩⟩
      cases b with
      | false =>
        dsimp only at hx3
        cases hx3
        refine iteF ⟨hlt, (e2.trans e3).trans e4, acc, rest, vs, e4 _ _ hD3, by rw [hre]; exact hrest', hrr, by omega, hk.same (e3.trans e4)⟩
      | true =>
        dsimp only at hx3
        obtain ⟨y, hy1, hx4⟩ : ∃ y, (ev T elt e).nox = .ok y ∧ R.ok (some y) = .ok x1 := by
          cases h1 : (ev T elt e).nox with
          | ok y => rw [h1] at hx3; exact ⟨y, rfl, hx3⟩
          | exc n => rw [h1] at hx3; cases hx3
          | stuck => rw [h1] at hx3; cases hx3
        cases hx4
        refine iteT ⟨_, H₀, e, _, S4.ext e4, nox_post hy1 fun w H5 e5 r5 _ => ⟨vs, e5 _ _ (e4 _ _ hD3), ?_, hlt, ?_, acc ++ [y], rest', vs ++ [w], upd_same, hrest', by rw [hrr, hre]; simp, by simp; omega, ?_⟩⟩
        · rw [← hk.length]
          omega
        · intro b o hb
          have nb : b ≠ D := ne_of_none hb hD
          rw [upd_ne nb]
          exact (((e2.trans e3).trans e4).trans e5) b o hb
        · -- D alone has changed, and none of the items has D
          have hst : ∀ b o, H5 b = some o → (¬ (ExM ex A (lkI ci ++ lk0 elt) b ∨ b = D) ∨ tupo o = true) → upd H5 D (.lst (vs ++ [w])) b = some o := fun b o hb z => by
            have nb : b ≠ D := fun q => by
              subst q
              rw [e5 _ _ (e4 _ _ hD3)] at hb
              cases hb
              rcases z with z | z
              · exact z (.inr rfl)
              · cases z
            rw [upd_ne nb]
            exact hb
          have key : ∀ a, (ExM ex A (lkI ci ++ lk0 elt) a ∨ a = D) → ExM (exF (exF (exF ex (lkI ci)) own) (tgS tgc)) (wA (exF ex (lkI ci)) own A') (lk0 elt) a := fun a z => by
            rcases z with (z | ⟨j, z, n⟩) | z
            · exact .inl (.inl (.inl z))
            · simp only [List.mem_append, not_or] at n
              by_cases hj : j ∈ own
              · exact .inl (.inr ⟨j, hj, by rw [exF_eq n.1]; exact z⟩)
              · refine .inr ⟨j, ?_, n.2⟩
                rw [exF_eq (fun m => hj ((hown j).mp m)), exF_eq hj, exF_eq n.1]
                exact z
            · exact .inl (.inl (.inr z))
          refine Reps.append (Reps.stay hst (fun a z => .inl z) _ _ (hk.same ((e3.trans e4).trans e5))) (.cons (Rep.stay hst (fun a z => .inl z) _ _ ?_) .nil)
          refine rep_of (r5.anti (fun a z => ?_) fun a z => ?_)
          · exact ExM.sub (fun _ h => h) a (key a z)
          · exact ExM.sub (lk1_lk0 elt) a (key a z)
  · have e : i = ds.length := by omega
    subst e
    refine .inl ⟨wk.stop H2 stay, ?_⟩
    have hrest0 : rest = [] := by
      rw [List.drop_length] at hrest
      exact (ok_inj hrest).symm
    rw [hrest0, List.append_nil] at hrr
    subst hrr
    refine q (.ref D) H2 (e1.trans e2) ⟨D, vs, rfl, .inl ⟨fun z => ?_, .inl hDv⟩, hk.anti fun a z => .inl z⟩ fun _ _ => ⟨D, rfl, e1.free hD, ⟨vs, hDv⟩, D, vs, rfl, .inl ⟨fun z => z, .inl hDv⟩, hk⟩
    exact S1.exDom _ D z hD
end
end L3

set_option Elab.async false
set_option linter.all false
set_option maxRecDepth 100000
set_option maxHeartbeats 1000000
/-! enumerate, zip, reversed -/
namespace L3
open PySem PySem.Spec PyProof.Rows L2

/-! ### enumerate of a tuple -/
def IteT (K : PySem.W.Frag) (a : Addr) : It :=
  ⟨fun i H => ∃ (xs : List V) (x : V), SqT K H a xs ∧ xs[i]? = some x, fun i H v H' => ∃ T x, v = .ref T ∧ H T = none ∧ H' = upd H T (.tup [.int (i : Nat), x]) ∧ ∀ xs, SqT K H a xs → xs[i]? = some x, fun i H => ∃ xs : List V, SqT K H a xs ∧ xs.length ≤ i⟩
theorem turn_enumT {P : Program} {w : World} {K : PySem.W.Frag} {elts : List Expr} {kk : Nat} {tpos : Pos} (a e it : Addr) :
    Turn P w K (.Tuple elts kk tpos) (IteT K a) [e, it] e (fun i h => (∃ old, IsEnum h e it ((i : Nat) : Int) old) ∧ h.IsTupleIter it a i ∧ e ≠ it) where
  mem := by simp
  obj := fun i h st b hb => by
    obtain ⟨⟨old, he⟩, ⟨o, ho, hc, hd⟩, _⟩ := st
    have e' : b = e ∨ b = it := by simpa using hb
    rcases e' with z | z
    · rw [z]; exact ⟨_, he, fun v q => nomatch q⟩
    · rw [z]; exact ⟨o, ho, fun v q => by rw [hd] at q; cases q⟩
  keep := fun i h h' st k => let ⟨⟨old, he⟩, hi, hne⟩ := st; ⟨⟨old, k e (by simp) _ he⟩, hi.at fun o q => k it (by simp) o q, hne⟩
  item := by
    intro X hP hw hK hc i pins s σ H E I hf st hg
    subst hP hw hK
    obtain ⟨⟨old, he⟩, hit, hne⟩ := st
    obtain ⟨xs, x, hq, hx⟩ := hg
    obtain ⟨its, rv, p, hz⟩ := I.tuple hq
    obtain ⟨u, hu, ru⟩ := rv.get hx
    have hel : e < s.heap.objs.size := Heap.lt_size he
    have hil : it < s.heap.objs.size := by obtain ⟨_, q, _⟩ := hit; exact Heap.lt_size q
    have pT : s.heap.IsTuple a its.toArray := p
    have hae : e ≠ a := fun q => by
      obtain ⟨o, ho, hc, _⟩ := pT
      rw [← q] at ho
      have he' := he
      unfold IsEnum at he'
      rw [he'] at ho; cases ho; exact absurd (show (Value.type "enumerate") = .type "tuple" from hc) (by decide)
    have hai : a ≠ it := fun q => by
      obtain ⟨o, ho, hc, _⟩ := pT
      obtain ⟨o2, ho2, hc2, _⟩ := hit
      rw [q, ho2] at ho; cases ho; rw [hc2] at hc; exact absurd hc (by decide)
    have hi : i < its.toArray.size := by
      rw [List.size_toArray]; exact (List.getElem?_eq_some_iff.mp hu).1
    have hh : X.A.in1.handled = none := by
      have := I.ok.hd hc
      simpa using this
    refine wpAny_pyNext_enum_itemD (Draws.tuple hh it a hai its.toArray) he ⟨hit, pT⟩ hi hne (by simp [hne, hae]) fun x' h' tk hP ho hit' hT hsz hk => ?_
    have hxx : x' = u := by
      have : its.toArray[i]? = some x' := hP
      rw [List.getElem?_toArray, hu] at this
      exact (Option.some.inj this).symm
    subst hxx
    refine ⟨_, rfl, wpAny_letOwnedTupleGo_enum (s := { s with heap := h', toks := tk + 1 }) ho fun h'' he' sb => ?_⟩
    have hT2 : h''.get? s.heap.objs.size = some { cls := .type "tuple", data := .seq #[.int i tk, x'] } := (sb.2 _ (Nat.ne_of_gt hel)).trans hT
    have new : ObjOk X.prog X.w (upd H s.heap.objs.size (.tup [.int (i : Nat), x])) h'' s.heap.objs.size (.tup [.int (i : Nat), x]) :=
      ⟨by show 2 ≤ sizeLine; decide, [.int i tk, x'], .cons ⟨_, rfl⟩ (.cons ru .nil), ⟨_, hT2, rfl, _, rfl⟩⟩
    have I1 : Inv X pins σ (upd H s.heap.objs.size (.tup [.int (i : Nat), x])) { s with heap := h'', toks := tk + 1 } :=
      I.turnedNew (ch := [e, it]) (fun b ob hb q => (sb.2 b (fun z => hb (by simp [z]))).trans (hk b ob (fun z => hb (by simp [z])) (fun z => hb (by simp [z])) q)) hf (Nat.le_refl _) new
    refine ⟨.ref s.heap.objs.size, _, I1, rfl, ⟨_, x, rfl, I.hok.fresh (Nat.le_refl _), rfl, fun ys hy => by rw [I.tuple_inj hy hq]; exact hx⟩, ⟨⟨x', ?_⟩, hit'.1.at fun o q => (sb.2 it (Ne.symm hne)).trans q, hne⟩, fun b hb => ?_⟩
    · have e1 : ((i + 1 : Nat) : Int) = (i : Int) + 1 := by omega
      rw [e1]; exact he'
    · have hb' : b < s.heap.objs.size := by
        have e' : b = e ∨ b = it := by simpa using hb
        rcases e' with z | z
        · rw [z]; exact hel
        · rw [z]; exact hil
      rw [upd_ne (Nat.ne_of_lt hb')]
      exact (hf b hb).1
  done := by
    intro X hP hw hK hc i pins s σ H E I hf st hg
    subst hP hw hK
    obtain ⟨⟨old, he⟩, hit, hne⟩ := st
    obtain ⟨xs, hq, hx⟩ := hg
    obtain ⟨its, rv, p, hz⟩ := I.tuple hq
    obtain ⟨f0, f1, f2, f3, f4, f5⟩ := hf it (by simp)
    have hl := rv.length
    have pT : s.heap.IsTuple a its.toArray := p
    have hai : a ≠ it := fun q => by
      obtain ⟨o, ho, hc, _⟩ := pT
      obtain ⟨o2, ho2, hc2, _⟩ := hit
      rw [q, ho2] at ho; cases ho; rw [hc2] at hc; exact absurd hc (by decide)
    have hh : X.A.in1.handled = none := by
      have := I.ok.hd hc
      simpa using this
    have D : Draws X.prog X.w X.A.in1 it [it, a] 0 (fun _ _ => False) (fun _ h => h.IsTupleIter it a i ∧ h.IsTuple a its.toArray) :=
      { live := fun _ _ st => let ⟨o, ho, _⟩ := st.1; ⟨o, ho⟩
        frame := fun _ _ _ st hk => ⟨st.1.at fun o e => hk it (by simp) o e, st.2.at fun o e => hk a (by simp) o e⟩
        item := fun i s Q E hi st hQ => absurd hi (Nat.not_lt_zero _)
        done := fun s Q E st hE => wpAny_nextOf_tuple_end hh st.1 st.2 (by simp; omega) hE }
    exact wpAny_pyNext_enum_endD D he ⟨hit, pT⟩ fun h' eb => ⟨rfl, I.turned (t' := s.toks) (fun b o hb q => eb b o hb q) f0 f1 f3 f4 f5⟩
  self := fun A i s Q E st h => let ⟨⟨_, he⟩, _⟩ := st; wpAny_pyIter_enum he h

set_option maxHeartbeats 1000000 in
theorem meets_enumT (l : Addr) (items : Array Value) (n : Nat) (dct : Option Addr) (sl : Array (Option Value)) :
    Meets (Builtin.«enumerate.__new__» ⟨[.type "enumerate", .ref l], []⟩) (fun _ R s => s.heap.get? l = some { cls := .type "tuple", dict := dct, data := .seq items n, slots := sl } ∧
      R (.ok (.ret (.ref (s.heap.push { cls := .type "tuple_iterator", data := .fields #[.ref l, .int 0 0] }).objs.size)))
        { s with heap := (s.heap.push { cls := .type "tuple_iterator", data := .fields #[.ref l, .int 0 0] }).push { cls := .type "enumerate", data := .fields #[.none, .bool false, .ref s.heap.objs.size, rawInt 0, .none, .none] } }) :=
  .of_wp fun prog w A R s h => by
    obtain ⟨hp, g, d, tk, os⟩ := s; obtain ⟨hl, h⟩ := h
    have hsub := sub_enumerate
    have hL : Heap.IsTuple (Shared.heap ⟨hp, g, d, tk, os⟩) l items := ⟨_, hl, rfl, n, rfl⟩
    wp_walk using AutoSeq1.wpAny_loadPart' hl
    refine wpAny_stack_any fun st => wpAny_pure ?_
    split
    · rename_i c _ _ _ _ _
      cases (c == Value.type "enumerate")
      · wp_walk using AutoSeq1.wpAny_loadPart' hl, wpAny_pyIter_tuple hL
        exact ⟨_, rfl, h⟩
      · wp_walk using AutoSeq1.wpAny_loadPart' hl, wpAny_pyIter_tuple hL
        exact ⟨_, rfl, h⟩
    · wp_walk using AutoSeq1.wpAny_loadPart' hl, wpAny_pyIter_tuple hL
      exact ⟨_, rfl, h⟩
theorem boot_enumA : bootBuiltins "enumerate" = some (.type "enumerate") := boot_enumerate
theorem call_enumT {prog : Program} {w : World} {A : Around} {E : Value → Shared → Prop} {s : Shared} {l : Addr} {items : Array Value} {Q : Value → Shared → Prop} (hL : s.heap.IsTuple l items)
    (h : ∀ h', IsEnum h' (s.heap.objs.size + 1) s.heap.objs.size 0 .none → h'.IsTupleIter s.heap.objs.size l 0 → h'.objs.size = s.heap.objs.size + 2 →
      (∀ b o, s.heap.get? b = some o → h'.get? b = some o) → Q (.ref (s.heap.objs.size + 1)) { s with heap := h' }) :
    wpAny (model prog w) A (call (.type "enumerate") [.ref l]) Q E s := by
  obtain ⟨⟨c, dct, dt, sl⟩, hl, hc, n, hd⟩ := hL
  replace hc : c = .type "tuple" := hc
  replace hd : dt = .seq items n := hd
  subst hc hd
  refine callType_new F.called_enumerate (by decide) (F.typeCall_enumerate_1 _) (F.newCall_enumerate_1 _) (fun obj => F.args_object_init_2 obj _) F.entry_enumerate_new
    (meets_enumT l items n dct sl) ⟨hl, ?_⟩
  have hz : (s.heap.push { cls := .type "tuple_iterator", data := .fields #[.ref l, .int 0 0] }).objs.size = s.heap.objs.size + 1 := Heap.size_push ..
  show _ ∧ _
  rw [hz]
  have he : IsEnum ((s.heap.push { cls := .type "tuple_iterator", data := .fields #[.ref l, .int 0 0] }).push
      { cls := .type "enumerate", data := .fields #[.none, .bool false, .ref s.heap.objs.size, rawInt 0, .none, .none] }) (s.heap.objs.size + 1) s.heap.objs.size 0 .none := by
    have := Heap.get?_push_size (s.heap.push { cls := .type "tuple_iterator", data := .fields #[.ref l, .int 0 0] })
      (o := { cls := .type "enumerate", data := .fields #[.none, .bool false, .ref s.heap.objs.size, rawInt 0, .none, .none] }) rfl
    rw [hz] at this; exact this
  refine ⟨⟨_, he, rfl⟩, h _ he ⟨_, Heap.get?_push_of_some _ (Heap.get?_push_size _ rfl), rfl, rfl⟩ (by rw [Heap.size_push, hz]) fun b o x => Heap.get?_push_of_some _ (Heap.get?_push_of_some _ x)⟩
def iEnumA (K : PySem.W.Frag) (ta : TA) : TI := fun σ H R => ta σ H fun vs H1 => ∃ a, vs = [.ref a] ∧ ((∃ xs, SqL K H1 a xs ∧ (xs.length ≤ sizeLine → R (Ite K a) H1)) ∨ (∃ xs, SqT K H1 a xs ∧ (xs.length ≤ sizeLine → R (IteT K a) H1)))
theorem pi_enumA {X : Cx} {e : Expr} {ta : TA} {p pos tpos : Pos} {elts : List Expr} {kk : Nat} (hg : Gl X "enumerate") (hm : X.mg "enumerate" = none) (ha : PA X [e] ta) (hs : starEach [e] X.env = [(false, eval e X.env)]) :
    PI X (.Tuple elts kk tpos) (.Call (.Name "enumerate" p) [e] [] pos) (iEnumA X.K ta) := by
  refine ⟨fun pins s σ H R I h => ?_⟩
  refine Call_ (ld_blt I hg hm boot_enumerate (PyProof.Rows.callWith_type1 (thn (ha.run pos pins s σ H _ I h) fun us s1 ⟨vs, H1, I1, r1, q1⟩ => ?_) hs rfl))
  obtain ⟨a, ex, q⟩ := q1
  subst ex
  cases r1 with
  | cons r rr =>
    cases rr
    cases r
    have two : ∀ b, b ∈ [s1.heap.objs.size + 1, s1.heap.objs.size] → FpOk X pins H1 b := fun b hb => by
      have e' : b = s1.heap.objs.size + 1 ∨ b = s1.heap.objs.size := by simpa using hb
      have hle : s1.heap.objs.size ≤ b := by
        rcases e' with z | z
        · rw [z]; exact Nat.le_add_right _ _
        · rw [z]; exact Nat.le_refl _
      exact I1.fpOk hle (I1.hok.fresh hle)
    rcases q with ⟨xs, hq, q⟩ | ⟨xs, hq, q⟩
    · obtain ⟨its, rv, p', hz⟩ := I1.list hq
      refine call_enumerate_list p'.isList fun h' he hit hsz hk => wpAny_pyIter_enum he ?_
      have I2 : Inv X pins σ H1 { s1 with heap := h' } := I1.kept (t' := s1.toks) hk
      exact ⟨s1.heap.objs.size + 1, [s1.heap.objs.size + 1, s1.heap.objs.size], _, _, H1, rfl, I2, turn_enum a (s1.heap.objs.size + 1) s1.heap.objs.size, ⟨⟨.none, he⟩, hit, Nat.succ_ne_self _⟩, two, q hz⟩
    · obtain ⟨its, rv, p', hz⟩ := I1.tuple hq
      refine call_enumT (show s1.heap.IsTuple a its.toArray from p') fun h' he hit hsz hk => wpAny_pyIter_enum he ?_
      have I2 : Inv X pins σ H1 { s1 with heap := h' } := I1.kept (t' := s1.toks) hk
      exact ⟨s1.heap.objs.size + 1, [s1.heap.objs.size + 1, s1.heap.objs.size], _, _, H1, rfl, I2, turn_enumT a (s1.heap.objs.size + 1) s1.heap.objs.size, ⟨⟨.none, he⟩, hit, Nat.succ_ne_self _⟩, two, q hz⟩

/-! ### what these walk -/
section
variable {K : PySem.W.Frag} {H : Hp} {B0 B : Av} {a b : Addr} {vs us : List V} {ds es : List D}
theorem rep_two {H' : Hp} {B' : Av} {T : Addr} {x y : V} {d e : D} (hT : H' T = none) (r1 : Rep K H' B' d x) (r2 : Rep K H' B' e y) : Same H' (upd H' T (.tup [x, y])) ∧ Rep K (upd H' T (.tup [x, y])) B' (.tuple [d, e]) (.ref T) := by
  have hs := same_upd (o := HO.tup [x, y]) hT
  exact ⟨hs, .tup (.inl (.inl upd_same)) (.cons (r1.same hs) (.cons (r2.same hs) .nil))⟩
theorem Walk.at_ {B' : Av} {H' : Hp} (r : Reps K H B ds vs) (hb : ∀ x, B0 x → B x) (hs : ∀ b o, H b = some o → (¬ B0 b ∨ tupo o = true) → H' b = some o) (hB : ∀ a, B' a → B a ∨ H a = none) {i : Nat} (hi : i < ds.length) : ∃ v, vs[i]? = some v ∧ Rep K H' B' ds[i] v := by
  obtain ⟨v, e1, r1⟩ := r.get (i := i) (d := ds[i]) (by simp [hi])
  exact ⟨v, e1, Rep.stay (fun b o q z => hs b o q (z.imp (fun n m => n (hb b m)) id)) hB _ _ r1⟩
theorem walk_enumL (hl : vs.length ≤ sizeLine) (h : LsR K H B0 a vs) (hb : ∀ x, B0 x → B x) (r : Reps K H B ds vs) : Walk K (Ite K a) B0 B H (ds.mapIdx fun i d => .tuple [.int (i : Nat), d]) where
  len := by rw [List.length_mapIdx, r.length]; exact hl
  go := fun H' hs i hi => by
    rw [List.length_mapIdx] at hi
    have hi' : i < vs.length := by rw [← r.length]; exact hi
    exact ⟨vs, vs[i], sql_stay hs h, by simp [hi']⟩
  yld := fun H' hs i x H'' hi y => by
    rw [List.length_mapIdx] at hi
    obtain ⟨T, v, ev, hT, e, y⟩ := y
    subst e ev
    refine ⟨same_upd hT, .tuple [.int (i : Nat), ds[i]], by simp [hi], fun B' hB => ?_⟩
    obtain ⟨v', e1, r1⟩ := Walk.at_ r hb hs hB hi
    have e2 := y vs (sql_stay hs h)
    rw [e1] at e2; cases e2
    exact (rep_two hT (.int _) r1).2
  stop := fun H' hs => ⟨vs, sql_stay hs h, by rw [List.length_mapIdx, r.length]; exact Nat.le_refl _⟩
theorem walk_enumT (hl : vs.length ≤ sizeLine) (h : SqT K H a vs) (hb : ∀ x, B0 x → B x) (r : Reps K H B ds vs) : Walk K (IteT K a) B0 B H (ds.mapIdx fun i d => .tuple [.int (i : Nat), d]) where
  len := by rw [List.length_mapIdx, r.length]; exact hl
  go := fun H' hs i hi => by
    rw [List.length_mapIdx] at hi
    have hi' : i < vs.length := by rw [← r.length]; exact hi
    exact ⟨vs, vs[i], sqt_stay hs h, by simp [hi']⟩
  yld := fun H' hs i x H'' hi y => by
    rw [List.length_mapIdx] at hi
    obtain ⟨T, v, ev, hT, e, y⟩ := y
    subst e ev
    refine ⟨same_upd hT, .tuple [.int (i : Nat), ds[i]], by simp [hi], fun B' hB => ?_⟩
    obtain ⟨v', e1, r1⟩ := Walk.at_ r hb hs hB hi
    have e2 := y vs (sqt_stay hs h)
    rw [e1] at e2; cases e2
    exact (rep_two hT (.int _) r1).2
  stop := fun H' hs => ⟨vs, sqt_stay hs h, by rw [List.length_mapIdx, r.length]; exact Nat.le_refl _⟩
theorem walk_zipL (hl : vs.length ≤ sizeLine) (h : LsR K H B0 a vs) (h2 : LsR K H B0 b us) (hb : ∀ x, B0 x → B x) (r : Reps K H B ds vs) (r2 : Reps K H B es us) : Walk K (Itz K a b) B0 B H (List.zipWith (fun x y => .tuple [x, y]) ds es) where
  len := by rw [List.length_zipWith, r.length]; omega
  go := fun H' hs i hi => by
    rw [List.length_zipWith] at hi
    have hi1 : i < vs.length := by rw [← r.length]; omega
    have hi2 : i < us.length := by rw [← r2.length]; omega
    exact ⟨vs, us, vs[i], us[i], sql_stay hs h, sql_stay hs h2, by simp [hi1], by simp [hi2]⟩
  yld := fun H' hs i x H'' hi y => by
    rw [List.length_zipWith] at hi
    obtain ⟨T, v, u, ev, hT, e, y1, y2⟩ := y
    subst e ev
    have hi1 : i < ds.length := by omega
    have hi2 : i < es.length := by omega
    refine ⟨same_upd hT, .tuple [ds[i], es[i]], by simp [List.getElem?_zipWith, hi1, hi2], fun B' hB => ?_⟩
    obtain ⟨v', e1, r1⟩ := Walk.at_ r hb hs hB hi1
    obtain ⟨u', f1, s1⟩ := Walk.at_ r2 hb hs hB hi2
    have e2 := y1 vs (sql_stay hs h)
    have f2 := y2 us (sql_stay hs h2)
    rw [e1] at e2; cases e2
    rw [f1] at f2; cases f2
    exact (rep_two hT r1 s1).2
  stop := fun H' hs => ⟨vs, us, sql_stay hs h, sql_stay hs h2, by
    rw [List.length_zipWith, ← r.length, ← r2.length]; omega⟩
theorem walk_zipT (hl : vs.length ≤ sizeLine) (h : SqT K H a vs) (h2 : SqT K H b us) (hb : ∀ x, B0 x → B x) (r : Reps K H B ds vs) (r2 : Reps K H B es us) : Walk K (RZ.ItzT K a b) B0 B H (List.zipWith (fun x y => .tuple [x, y]) ds es) where
  len := by rw [List.length_zipWith, r.length]; omega
  go := fun H' hs i hi => by
    rw [List.length_zipWith] at hi
    have hi1 : i < vs.length := by rw [← r.length]; omega
    have hi2 : i < us.length := by rw [← r2.length]; omega
    exact ⟨vs, us, vs[i], us[i], sqt_stay hs h, sqt_stay hs h2, by simp [hi1], by simp [hi2]⟩
  yld := fun H' hs i x H'' hi y => by
    rw [List.length_zipWith] at hi
    obtain ⟨T, v, u, ev, hT, e, y1, y2⟩ := y
    subst e ev
    have hi1 : i < ds.length := by omega
    have hi2 : i < es.length := by omega
    refine ⟨same_upd hT, .tuple [ds[i], es[i]], by simp [List.getElem?_zipWith, hi1, hi2], fun B' hB => ?_⟩
    obtain ⟨v', e1, r1⟩ := Walk.at_ r hb hs hB hi1
    obtain ⟨u', f1, s1⟩ := Walk.at_ r2 hb hs hB hi2
    have e2 := y1 vs (sqt_stay hs h)
    have f2 := y2 us (sqt_stay hs h2)
    rw [e1] at e2; cases e2
    rw [f1] at f2; cases f2
    exact (rep_two hT r1 s1).2
  stop := fun H' hs => ⟨vs, us, sqt_stay hs h, sqt_stay hs h2, by
    rw [List.length_zipWith, ← r.length, ← r2.length]; omega⟩
theorem walk_revL (hl : vs.length ≤ sizeLine) (h : LsR K H B0 a vs) (hb : ∀ x, B0 x → B x) (r : Reps K H B ds vs) : Walk K (Itv K a vs.length) B0 B H ds.reverse where
  len := by rw [List.length_reverse, r.length]; exact hl
  go := fun H' hs i hi => by
    rw [List.length_reverse] at hi
    have hi' : i < vs.length := by rw [← r.length]; exact hi
    have hj : vs.length - 1 - i < vs.length := by omega
    exact ⟨hi', vs, vs[vs.length - 1 - i], sql_stay hs h, by simp [hj]⟩
  yld := fun H' hs i x H'' hi y => by
    rw [List.length_reverse] at hi
    obtain ⟨e, y⟩ := y
    subst e
    have hj : ds.length - 1 - i < ds.length := by omega
    refine ⟨Same.refl _, ds[ds.length - 1 - i], by rw [List.getElem?_reverse hi]; simp [hj], fun B' hB => ?_⟩
    obtain ⟨v', e1, r1⟩ := Walk.at_ r hb hs hB hj
    have e2 := y vs (sql_stay hs h)
    rw [← r.length, e1] at e2; cases e2
    exact r1
  stop := fun H' hs => by show vs.length ≤ ds.reverse.length; rw [List.length_reverse, r.length]; exact Nat.le_refl _
theorem walk_revT (hl : vs.length ≤ sizeLine) (h : SqT K H a vs) (hb : ∀ x, B0 x → B x) (r : Reps K H B ds vs) : Walk K (RT.ItvT K a vs.length) B0 B H ds.reverse where
  len := by rw [List.length_reverse, r.length]; exact hl
  go := fun H' hs i hi => by
    rw [List.length_reverse] at hi
    have hi' : i < vs.length := by rw [← r.length]; exact hi
    have hj : vs.length - 1 - i < vs.length := by omega
    exact ⟨hi', vs, vs[vs.length - 1 - i], sqt_stay hs h, by simp [hj]⟩
  yld := fun H' hs i x H'' hi y => by
    rw [List.length_reverse] at hi
    obtain ⟨e, y⟩ := y
    subst e
    have hj : ds.length - 1 - i < ds.length := by omega
    refine ⟨Same.refl _, ds[ds.length - 1 - i], by rw [List.getElem?_reverse hi]; simp [hj], fun B' hB => ?_⟩
    obtain ⟨v', e1, r1⟩ := Walk.at_ r hb hs hB hj
    have e2 := y vs (sqt_stay hs h)
    rw [← r.length, e1] at e2; cases e2
    exact r1
  stop := fun H' hs => by show vs.length ≤ ds.reverse.length; rw [List.length_reverse, r.length]; exact Nat.le_refl _
end
section
variable {X : Cx} {W : Wn} {T : FT} {tg : Expr}
theorem vi_enum {elts : List Expr} {kk : Nat} {tpos p pos : Pos} {l : Expr} {c : CE} (hg : Gl X "enumerate") (hm : X.mg "enumerate" = none) (hn : notStar l = true) (h : PE X l (tE X.K W T c)) : PI X (.Tuple elts kk tpos) (.Call (.Name "enumerate" p) [l] [] pos) (tI X.K W T (.enum c)) :=
  PI.imp (pi_enumA hg hm (pa_cons h pa_nil (star_cons hn)) (star_cons hn)) fun pins s σ H R I ⟨A, H₀, env, ex, S, p⟩ => by
    simp only [its, post_bind] at p
    refine part1 S p fun d x H1 p1 e1 S1 r1 => ?_
    cases d <;> first | exact (show False from p1).elim | skip
    · obtain ⟨a, vs, rfl, ha, ka⟩ := r1
      exact ⟨a, rfl, .inl ⟨vs, ha.sql, fun hz => p1 _ H1 e1 (walk_enumL hz ha.rt (ExM.sub (lk1_lk0 c)) (Reps.rt _ _ ka))⟩⟩
    · cases r1 with
      | @tup a vs _ ha ka => exact ⟨a, rfl, .inr ⟨vs, ha, fun hz => p1 _ H1 e1 (walk_enumT hz (sqT_rt ha) (ExM.sub (lk1_lk0 c)) (Reps.rt _ _ ka))⟩⟩

def iRevS (K : PySem.W.Frag) (te : TE) : TI := fun σ H R => te σ H fun v H1 => ∃ a : Addr, v = .ref a ∧ ((∃ xs : List V, SqL K H1 a xs ∧ (xs.length ≤ sizeLine → R (Itv K a xs.length) H1)) ∨ (∃ xs : List V, SqT K H1 a xs ∧ (xs.length ≤ sizeLine → R (RT.ItvT K a xs.length) H1)))
theorem pi_revS {e : Expr} {te : TE} {p pos : Pos} (hg : Gl X "reversed") (hm : X.mg "reversed" = none) (he : PE X e te) (hs : starEach [e] X.env = (false, eval e X.env) :: starEach [] X.env) : PI X tg (.Call (.Name "reversed" p) [e] [] pos) (iRevS X.K te) := by
  refine ⟨fun pins s σ H R I h => ?_⟩
  refine Call_ (ld_blt I hg hm PyProof.Rows.boot_reversed (PyProof.Rows.callWith_type1 (args_cons (thn (he.run pins s σ H _ I h) fun u s1 ⟨v, H1, I1, r1, q1⟩ => args_nil ?_) hs) hs rfl))
  obtain ⟨a, ev, q⟩ := q1
  subst ev
  obtain rfl : u = Value.ref a := r1
  rcases q with ⟨xs, hq, q⟩ | ⟨xs, hq, q⟩
  · obtain ⟨its, rv, p', hz⟩ := I1.list hq
    have hl := rv.length
    have e1 : ((its.toArray.size : Nat) : Int) - 1 = (xs.length : Int) - 1 - ((0 : Nat) : Int) := by simp only [List.size_toArray]; omega
    refine call_reversed_list p'.isList (wpAny_pyIter_revIter (l := a) (i := ((its.toArray.size : Nat) : Int) - 1) ⟨_, Heap.get?_push_size _ rfl, rfl, rfl⟩ ?_)
    refine pi_one (tk := s1.toks) I1 _ (turn_rev a _ xs.length) ⟨Nat.zero_le _, ?_⟩ (q hz)
    rw [← e1]
    exact ⟨_, Heap.get?_push_size _ rfl, rfl, rfl⟩
  · obtain ⟨its, rv, p', hz⟩ := I1.tuple hq
    have hl := rv.length
    have hn := line63
    have e1 : ((its.toArray.size : Nat) : Int) - 1 = (xs.length : Int) - 1 - ((0 : Nat) : Int) := by simp only [List.size_toArray]; omega
    refine RT.call_reversed_tup p' (fun A E Q k => len_tuple p' (by simp only [List.size_toArray] <;> omega) k) (RT.iter_rt (t := a) (i := ((its.toArray.size : Nat) : Int) - 1) ⟨_, Heap.get?_push_size _ rfl, rfl, rfl⟩ ?_)
    refine pi_one (tk := s1.toks + 1 + 1) I1 _ (RT.turn_rt a _ xs.length) ⟨Nat.zero_le _, ?_⟩ (q hz)
    rw [← e1]
    exact ⟨_, Heap.get?_push_size _ rfl, rfl, rfl⟩
theorem vi_rev {p pos : Pos} {l : Expr} {c : CE} (hg : Gl X "reversed") (hm : X.mg "reversed" = none) (hn : notStar l = true) (h : PE X l (tE X.K W T c)) : PI X tg (.Call (.Name "reversed" p) [l] [] pos) (tI X.K W T (.rev c)) :=
  PI.imp (pi_revS hg hm h (star_cons hn)) fun pins s σ H R I ⟨A, H₀, env, ex, S, p⟩ => by
    simp only [its, post_bind] at p
    refine part1 S p fun d x H1 p1 e1 S1 r1 => ?_
    cases d <;> first | exact (show False from p1).elim | skip
    · obtain ⟨a, vs, rfl, ha, ka⟩ := r1
      exact ⟨a, rfl, .inl ⟨vs, ha.sql, fun hz => p1 _ H1 e1 (walk_revL hz ha.rt (ExM.sub (lk1_lk0 c)) (Reps.rt _ _ ka))⟩⟩
    · cases r1 with
      | @tup a vs _ ha ka => exact ⟨a, rfl, .inr ⟨vs, ha, fun hz => p1 _ H1 e1 (walk_revT hz (sqT_rt ha) (ExM.sub (lk1_lk0 c)) (Reps.rt _ _ ka))⟩⟩

theorem vi_zip {elts : List Expr} {kk : Nat} {tpos p pos : Pos} {l m : Expr} {c c' : CE} (hg : Gl X "zip") (hm : X.mg "zip" = none) (hn : notStar l = true) (hn2 : notStar m = true) (h : PE X l (tE X.K W T c)) (h' : PE X m (tE X.K W T c')) : PI X (.Tuple elts kk tpos) (.Call (.Name "zip" p) [l, m] [] pos) (tI X.K W T (.zip c c')) :=
  PI.imp (RZ.pi_zipA hg hm (pa_cons h (pa_cons h' pa_nil (star_cons hn2)) (star_cons hn)) (star_cons hn) (star_none (by simp [hn2]))) fun pins s σ H R I ⟨A, H₀, env, ex, S, p⟩ => by
    simp only [its, post_bind] at p
    refine part1 S p fun d x H1 p1 e1 S1 r1 => part1 S1 (p1.ext e1) fun d2 y H2 p2 e2 S2 r2 => ?_
    have s0 : ∀ x, ExM ex A (lkI0 (.zip c c')) x → ExM ex A (lkI (.zip c c')) x := ExM.sub fun i h => by
      rcases List.mem_append.mp h with z | z
      · exact List.mem_append_left _ (lk1_lk0 c i z)
      · exact List.mem_append_right _ (lk1_lk0 c' i z)
    have q1 := (r1.same e2).anti (A0' := ExM ex A (lk0 c ++ lk0 c')) (A' := ExM ex A (lk1 c ++ lk1 c')) (ExM.sub fun i h => List.mem_append_left _ h) (ExM.sub fun i h => List.mem_append_left _ h)
    have q2 := r2.anti (A0' := ExM ex A (lk0 c ++ lk0 c')) (A' := ExM ex A (lk1 c ++ lk1 c')) (ExM.sub fun i h => List.mem_append_right _ h) (ExM.sub fun i h => List.mem_append_right _ h)
    cases d <;> cases d2 <;> first | exact (show False from p2).elim | skip
    · rename_i ds es
      obtain ⟨a, vs, rfl, ha, ka⟩ := q1
      obtain ⟨b, us, rfl, hb, kb⟩ := q2
      by_cases hl : ds.length ≤ lim
      · have p3 : Post W H (if ds.length ≤ lim then L3.R.ok (List.zipWith (fun x y => PyData.tuple [x, y]) ds es) else L3.R.stuck) _ := p2
        rw [if_pos hl] at p3
        exact ⟨a, b, vs, us, rfl, .inl ⟨ha.sql, hb.sql, p3 _ H2 (e1.trans e2) (walk_zipL (by rw [← ka.length, ← lim_eq]; exact hl) ha.rt hb.rt s0 (Reps.rt _ _ ka) (Reps.rt _ _ kb))⟩⟩
      · have p3 : Post W H (if ds.length ≤ lim then L3.R.ok (List.zipWith (fun x y => PyData.tuple [x, y]) ds es) else L3.R.stuck) _ := p2
        rw [if_neg hl] at p3
        exact (show False from p3).elim
    · rename_i ds es
      cases q1 with
      | @tup a vs _ ha ka =>
        cases q2 with
        | @tup b us _ hb kb =>
          by_cases hl : ds.length ≤ lim
          · have p3 : Post W H (if ds.length ≤ lim then L3.R.ok (List.zipWith (fun x y => PyData.tuple [x, y]) ds es) else L3.R.stuck) _ := p2
            rw [if_pos hl] at p3
            exact ⟨a, b, vs, us, rfl, .inr ⟨ha, hb, p3 _ H2 (e1.trans e2) (walk_zipT (by rw [← ka.length, ← lim_eq]; exact hl) (sqT_rt ha) (sqT_rt hb) s0 (Reps.rt _ _ ka) (Reps.rt _ _ kb))⟩⟩
          · have p3 : Post W H (if ds.length ≤ lim then L3.R.ok (List.zipWith (fun x y => PyData.tuple [x, y]) ds es) else L3.R.stuck) _ := p2
            rw [if_neg hl] at p3
            exact (show False from p3).elim
end
end L3

set_option Elab.async false
set_option linter.all false
set_option maxRecDepth 100000
set_option maxHeartbeats 1000000
/-! statements -/
namespace L3
open PySem PySem.Spec PyProof.Rows L2

section
variable {X : Cx} {W : Wn} {T : FT} {e : Expr} {c : CE} {pos : Pos}
theorem vts_nil : PTs X [] (tT X.K W T (.cn (.bool true))) := ⟨fun pins s σ H Q I ⟨A, H₀, env, ex, S, p⟩ => pts_nil.run pins s σ H Q I (by
  obtain ⟨b, e, q⟩ := p
  cases e
  exact q H (Same.refl _))⟩
theorem ve_lc {elt tg iter : Expr} {ifs : List Expr} {scope : Scope} {own : List (Str × Nat)} {tgc : Tg} {ci : CI} {cond celt : CE} (hc : X.calm = true) (hN : X.N.Nodup) (hi : PI X tg iter (tI X.K W T ci)) (ok : BlkOk X.N X.env.scope scope own)
    (hown : ∀ i, i ∈ tgS tgc ↔ i ∈ own.map (·.2))
    (hg : ∀ (s : Shared) (H : Hp) (C : Addr) (cl : List (Str × Addr)) (fp : List Addr), PG (X.blk s H scope (compEnvC scope cl C X.env) fp) tg (gT X.K tgc)) (ht : ∀ (s : Shared) (H : Hp) (C : Addr) (cl : List (Str × Addr)) (fp : List Addr), PTs (X.blk s H scope (compEnvC scope cl C X.env) fp) ifs (tT X.K W0 T cond))
    (he : ∀ (s : Shared) (H : Hp) (C : Addr) (cl : List (Str × Addr)) (fp : List Addr), PE (X.blk s H scope (compEnvC scope cl C X.env) fp) elt (tE X.K W0 T celt)) (hs : ∀ x, foldedSetIterable iter X.env x = pure x) :
    PE X (.ListComp elt [⟨tg, iter, ifs, 0⟩] scope pos) (tE X.K W T (.lc (own.map (·.2)) tgc ci cond celt)) :=
  PE.imp (pe_lc hc hN hi ok hg ht he hs) fun pins s σ H Q I h => lc_imp hown h

/-! ### targets -/
theorem vg_one {x : Str} {i : Nat} (hN : X.N.Nodup) (hi : X.N[i]? = some x) (hx : Loc X.env.scope x) (hf : X.fn x = true ∨ X.env.scope.names.lookup x = some .local) : PG X (.Name x pos) (gT X.K (.one i)) := pg_name hN hi hx hf
/-- plain names, with their places -/
inductive NameL (X : Cx) : List Expr → List Nat → Prop
  | nil : NameL X [] []
  | cons {x : Str} {p : Pos} {i : Nat} {es : List Expr} {is : List Nat} : X.N[i]? = some x → Loc X.env.scope x → (X.fn x = true ∨ X.env.scope.names.lookup x = some .local) → NameL X es is → NameL X (.Name x p :: es) (i :: is)
theorem NameL.pgs (hN : X.N.Nodup) : ∀ {es : List Expr} {is : List Nat}, NameL X es is → PGs X es (gNs is)
  | _, _, .nil => pgs_nil
  | _, _, .cons h1 h2 h3 t => pgs_cons (pg_name hN h1 h2 h3) (NameL.pgs hN t) rfl
theorem NameL.each : ∀ {es : List Expr} {is : List Nat}, NameL X es is → (assignEach es X.env).length = is.length ∧ (assignEach es X.env).findIdx? (·.1) = none
  | _, _, .nil => ⟨rfl, rfl⟩
  | _, _, .cons h1 h2 h3 t => by
    obtain ⟨a, b⟩ := NameL.each t
    refine ⟨?_, ?_⟩
    · show (assignEach _ X.env).length + 1 = _
      rw [a]; rfl
    · show List.findIdx? (·.1) ((false, _) :: assignEach _ X.env) = none
      rw [List.findIdx?_cons]
      simp only [Bool.false_eq_true, if_false]
      rw [b]; rfl
theorem vg_tup {es : List Expr} {is : List Nat} {k : Nat} (hc : X.calm = true) (hN : X.N.Nodup) (h : NameL X es is) : PG X (.Tuple es k pos) (gT X.K (.tup is)) :=
  pg_tup hc (h.pgs hN) h.each.1 h.each.2
end

section
variable {X : Cx} {pos : Pos}
theorem vg_pr {es : List Expr} {is : List Nat} {x : Str} {i k k2 : Nat} {p p2 : Pos} (hc : X.calm = true) (hN : X.N.Nodup) (hi : X.N[i]? = some x) (hx : Loc X.env.scope x) (hf : X.fn x = true ∨ X.env.scope.names.lookup x = some .local) (h : NameL X es is) :
    PG X (.Tuple [.Name x p, .Tuple es k p2] k2 pos) (gT X.K (.pr i is)) :=
  pg_tup hc (pgs_cons (pg_name hN hi hx hf) (pgs_cons (vg_tup hc hN h) pgs_nil rfl) rfl) rfl rfl
end

/-! ### what a statement changes -/
/-- code objects' tables, by their names -/
abbrev Tbl := List (Addr × Str)
def TabK (TB : Tbl) (H H' : Hp) : Prop := ∀ p, p ∈ TB → LamX.TabS H p.1 p.2 → LamX.TabS H' p.1 p.2
theorem TabK.same {TB : Tbl} {H H' : Hp} (e : Same H H') : TabK TB H H' := fun p _ t => t.ext e
theorem TabK.trans {TB : Tbl} {H H1 H2 : Hp} (a : TabK TB H H1) (b : TabK TB H1 H2) : TabK TB H H2 := fun p m t => b p m (a p m t)
theorem TabK.updL {TB : Tbl} {H : Hp} {a : Addr} {vs us : List V} (h : H a = some (.lst vs)) : TabK TB H (upd H a (.lst us)) := fun p _ t => by
  obtain ⟨ps, h1, h2, h3⟩ := t
  refine ⟨ps, ?_, h2, fun pos cv hc => ?_⟩
  · rw [upd_ne (fun q => by rw [q, h] at h1; cases h1)]; exact h1
  · obtain ⟨c, e1, e2⟩ := h3 pos cv hc
    exact ⟨c, e1, by rw [upd_ne (fun q => by rw [q, h] at e2; cases e2)]; exact e2⟩
structure Keep (TB : Tbl) (env : Env) (ex : Nat → Option Addr) (σ : L2.St) (env' : Env) (ex' : Nat → Option Addr) (σ' : L2.St) (H H' : Hp) : Prop where
  k1 : ∀ b o, H b = some o → ntb o = true → (∀ i d, ex i = some b → env[i]? ≠ some (some (d, .own))) → H' b = some o
  k2 : ∀ i b d, ex' i = some b → env'[i]? = some (some (d, .own)) → rt H b = none ∨ ∃ j d', ex j = some b ∧ env[j]? = some (some (d', .own))
  k3 : ∀ i b d, ex' i = some b → env'[i]? = some (some (d, .lock)) → ex i = some b ∧ ∃ d', env[i]? = some (some (d', .lock))
  k4 : env'.length = env.length
  k5 : ∀ (j : Nat), env'[j]? = some none → σ'[j]? = σ[j]? ∧ env[j]? = some none
  k6 : TabK TB H H'
section
variable {K : PySem.W.Frag} {A : Av} {H₀ H H1 H2 : Hp} {env env1 env2 : Env} {ex ex1 ex2 : Nat → Option Addr} {σ σ1 σ2 : L2.St} {TB : Tbl}
theorem Keep.refl (e : Same H H1) : Keep TB env ex σ env ex σ H H1 := ⟨fun b o h _ _ => e b o h, fun i b d h h' => .inr ⟨i, d, h, h'⟩, fun i b d h h' => ⟨h, d, h'⟩, rfl, fun j h => ⟨rfl, h⟩, .same e⟩
theorem Keep.trans (a : Keep TB env ex σ env1 ex1 σ1 H H1) (b : Keep TB env1 ex1 σ1 env2 ex2 σ2 H1 H2) : Keep TB env ex σ env2 ex2 σ2 H H2 where
  k1 := fun c o h t n => b.k1 c o (a.k1 c o h t n) t fun i d h1 h2 => by
    rcases a.k2 i c d h1 h2 with z | ⟨j, d', z1, z2⟩
    · rw [rt_of h t] at z; cases z
    · exact n j d' z1 z2
  k2 := fun i c d h1 h2 => by
    rcases b.k2 i c d h1 h2 with z | ⟨j, d', z1, z2⟩
    · cases q : rt H c with
      | none => exact .inl rfl
      | some o =>
        obtain ⟨q1, q2⟩ := rt_some q
        by_cases hh : ∀ i d, ex i = some c → env[i]? ≠ some (some (d, .own))
        · rw [rt_of (a.k1 c o q1 q2 hh) q2] at z; cases z
        · refine .inr ?_
          by_cases hx : ∃ i d, ex i = some c ∧ env[i]? = some (some (d, .own))
          · exact hx
          · exact absurd (fun i d h1 h2 => hx ⟨i, d, h1, h2⟩) hh
    · exact a.k2 j c d' z1 z2
  k3 := fun i c d h1 h2 => by
    obtain ⟨z1, d', z2⟩ := b.k3 i c d h1 h2
    exact a.k3 i c d' z1 z2
  k4 := b.k4.trans a.k4
  k5 := fun j h => by
    obtain ⟨x, y⟩ := b.k5 j h
    obtain ⟨z, w⟩ := a.k5 j y
    exact ⟨x.trans z, w⟩
  k6 := a.k6.trans b.k6
/-- where there are tables: they stand, the def's own heap H₀ tells of none, none is avoided -/
def TOk (TB : Tbl) (A : Av) (H₀ H : Hp) : Prop := TB = [] ∨ (LamX.Tabs TB H ∧ (∀ b ps, H₀ b ≠ some (.tbl ps)) ∧ ∀ a, A a → ∀ ps, H a ≠ some (.tbl ps))
theorem ntb_of {o : HO} (h : ∀ ps, o ≠ .tbl ps) : ntb o = true := by cases o <;> first | rfl | exact absurd rfl (h _)
theorem ntb_ne {o : HO} (h : ntb o = true) : ∀ ps, o ≠ .tbl ps := fun ps e => by rw [e] at h; cases h
theorem TOk.keep (t : TOk TB A H₀ H) (S : SR K A H₀ H env ex σ) (k : Keep TB env ex σ env1 ex1 σ1 H H1) : TOk TB A H₀ H1 := by
  rcases t with t | ⟨t1, t2, t3⟩
  · exact .inl t
  · refine .inr ⟨fun p hp => k.k6 p hp (t1 p hp), t2, fun a z ps e => ?_⟩
    cases q : H a with
    | none => exact S.dom a z q
    | some o =>
      have hn : ∀ ps, o ≠ .tbl ps := fun ps e => t3 a z ps (by rw [q, e])
      have := k.k1 a o q (ntb_of hn) fun i d h1 _ => S.new i a h1 z
      rw [this] at e
      exact hn ps (Option.some.inj e)
theorem TOk.same (t : TOk TB A H₀ H) (S : SR K A H₀ H env ex σ) (e : Same H H1) : TOk TB A H₀ H1 := t.keep S (Keep.refl e)
end

/-- a statement's reading -/
def tS (K : PySem.W.Frag) (TB : Tbl) (W : Wn) (T : FT) (fr : Bool) (cs : CS) : TS := fun D σ H => ∃ A H₀ env ex, SR K A H₀ H env ex σ ∧ TOk TB A H₀ H ∧
  match exec T fr cs env with
  | .nx env' => ∀ σ' H' ex', SR K A H₀ H' env' ex' σ' → Keep TB env ex σ env' ex' σ' H H' → D.nx σ' H'
  | .rt d => ∀ v H', Same H₀ H' → Rep K H' A d v → (fr = true → Nw K H₀ H' A d v) → D.rt v H'
  | .ex n => ∀ H', Same H₀ H' → W n H'
  | .st => False
section
variable {X : Cx} {TB : Tbl} {W : Wn} {T : FT} {fr : Bool} {e : Expr} {st : Stmt} {sts : List Stmt} {c : CE} {cs cs' : CS} {pos : Pos}
theorem vs_nil : PSs X [] (tS X.K TB W T fr .skip) := ⟨fun pins s σ H D I ⟨A, H₀, env, ex, S, tk, p⟩ => pss_nil.run pins s σ H D I (p σ H ex S (.refl (Same.refl _)))⟩
theorem PSs.imp {sts : List Stmt} {t t' : TS} (h : PSs X sts t) (hi : ∀ pins s σ H D, Inv X pins σ H s → t' D σ H → t D σ H) : PSs X sts t' :=
  ⟨fun pins s σ H Q I q => h.run pins s σ H Q I (hi pins s σ H Q I q)⟩
theorem vs_cons (h1 : PS X st (tS X.K TB W T fr cs)) (h2 : PSs X sts (tS X.K TB W T fr cs')) : PSs X (st :: sts) (tS X.K TB W T fr (.seq cs cs')) :=
  PSs.imp (pss_cons h1 h2) fun pins s σ H D I ⟨A, H₀, env, ex, S, tk, p⟩ => by
    refine ⟨A, H₀, env, ex, S, tk, ?_⟩
    simp only [exec] at p
    cases hx : exec T fr cs env with
    | nx env' =>
      rw [hx] at p
      intro σ' H' ex' S' k
      refine ⟨A, H₀, env', ex', S', tk.keep S k, ?_⟩
      change match exec T fr cs' env' with | .nx env' => _ | .rt d => _ | .ex n => _ | .st => False at p
      cases hy : exec T fr cs' env' with
      | nx env2 => rw [hy] at p; exact fun σ2 H2 ex2 S2 k2 => p σ2 H2 ex2 S2 (k.trans k2)
      | rt d => rw [hy] at p; exact p
      | ex n => rw [hy] at p; exact p
      | st => rw [hy] at p; exact p
    | rt d => rw [hx] at p; exact p
    | ex n => rw [hx] at p; exact p
    | st => rw [hx] at p; exact p
theorem vs_one (h : PS X st (tS X.K TB W T fr cs)) : PSs X [st] (tS X.K TB W T fr cs) := pss_one h
theorem vs_pass : PS X (.Pass pos) (tS X.K TB W T fr .skip) := ⟨fun pins s σ H D I ⟨A, H₀, env, ex, S, tk, p⟩ => ps_pass.run pins s σ H D I (p σ H ex S (.refl (Same.refl _)))⟩
/-- from a value to the statement's own wish -/
theorem Post.of_toO {α : Type} {W : Wn} {H₀ H : Hp} {r : R α} {f : α → O} {P : O → Prop} (s0 : Same H₀ H) (h : P (r.toO f)) (hx : ∀ n, P (.ex n) → ∀ H', Same H₀ H' → W n H') (hs : ¬ P .st) : Post W H r fun a => P (f a) := by
  cases r with
  | ok a => exact h
  | exc n => exact fun H' e => hx n h H' (s0.trans e)
  | stuck => exact hs h
/-- the wish of a statement as a wish of its outcome -/
def Wish (K : PySem.W.Frag) (TB : Tbl) (W : Wn) (fr : Bool) (A : Av) (H₀ H : Hp) (env : Env) (ex : Nat → Option Addr) (σ : L2.St) (D : Ends) (o : O) : Prop :=
  match o with
  | .nx env' => ∀ σ' H' ex', SR K A H₀ H' env' ex' σ' → Keep TB env ex σ env' ex' σ' H H' → D.nx σ' H'
  | .rt d => ∀ v H', Same H₀ H' → Rep K H' A d v → (fr = true → Nw K H₀ H' A d v) → D.rt v H'
  | .ex n => ∀ H', Same H₀ H' → W n H'
  | .st => False
theorem tS_iff {K : PySem.W.Frag} {D : Ends} {σ : L2.St} {H : Hp} : tS K TB W T fr cs D σ H = ∃ A H₀ env ex, SR K A H₀ H env ex σ ∧ TOk TB A H₀ H ∧ Wish K TB W fr A H₀ H env ex σ D (exec T fr cs env) := rfl
theorem vs_ret (h : PE X e (tE X.K W T c)) : PS X (.Return (some e) pos) (tS X.K TB W T fr (.ret c)) :=
  PS.imp (ps_ret h) fun pins s σ H D I ⟨A, H₀, env, ex, S, tk, p⟩ => by
    refine ⟨A, H₀, env, ex, S, ?_⟩
    have p' : Wish X.K TB W fr A H₀ H env ex σ D ((ev T c env).toO fun d => if retOk T fr c d then .rt d else .st) := p
    refine (Post.of_toO S.same p' (fun n h => h) (fun h => h)).imp (Same.refl _) fun d _ q v H' e1 r n => ?_
    split at q
    · rename_i hr
      refine q v H' (S.same.trans e1) (rep_of (r.anti (fun a z => .inl z) fun a z => .inl z)) fun hf ow => ?_
      unfold retOk at hr
      rw [hf, ow] at hr
      simp at hr
      obtain ⟨p, ep, np, op, rp⟩ := n hr ow
      exact ⟨p, ep, S.same.free np, op, rp.anti (fun a z => z) fun a z => z.imp .inl id⟩
    · exact q.elim
theorem vs_retN : PS X (.Return none pos) (tS X.K TB W T fr .retN) := ⟨fun pins s σ H D I ⟨A, H₀, env, ex, S, tk, p⟩ => ps_retN.run pins s σ H D I (p _ _ S.same .non fun _ => .of_na rfl)⟩
theorem vs_retV {i : Nat} {x : Str} {pos' : Pos} (hN : X.N[i]? = some x) (hv : Vis X.env.scope x) (hd : (x == ("__debug__" : Str)) = false) (hcd : (x == ("__classdict__" : Str)) = false) : PS X (.Return (some (.Name x pos')) pos) (tS X.K TB W T fr (.retV i)) :=
  PS.imp (ps_ret (pe_var hN hv hd hcd)) fun pins s σ H D I ⟨A, H₀, env, ex, S, tk, p⟩ => by
    simp only [exec] at p
    cases hq : env[i]? with
    | none => rw [hq] at p; exact p.elim
    | some o =>
      cases o with
      | none => rw [hq] at p; exact p.elim
      | some q =>
        obtain ⟨d, fl⟩ := q
        rw [hq] at p
        obtain ⟨v, e1, r, o⟩ := S.at_ i d fl hq
        refine ⟨v, e1, ?_⟩
        dsimp only at p
        by_cases hc : (!fr || !ownable d || decide (fl = .own)) = true
        · rw [if_pos hc] at p
          refine p v H S.same (rep_of (r.anti (fun a z => .inl z) fun a z => .inl z)) fun hf ow => ?_
          rw [hf, ow] at hc
          simp at hc
          subst hc
          rcases o with o | ⟨a, ea, xa, oa⟩
          · cases o
          · exact ⟨a, ea, S.old i a xa, oa, r.anti (fun a z => z.elim) fun b z => z.elim .inl fun h => .inr ⟨i, by rw [h]; exact xa, by simp⟩⟩
        · rw [if_neg hc] at p
          exact p.elim
theorem vs_expr (h : PE X e (tE X.K W T c)) (hs : swapsWith e none pos.line X.env = pure false) : PS X (.Expr e pos) (tS X.K TB W T fr (.exprS c)) :=
  PS.imp (ps_expr h hs) fun pins s σ H D I ⟨A, H₀, env, ex, S, tk, p⟩ => by
    refine ⟨A, H₀, env, ex, S, ?_⟩
    have p' : Wish X.K TB W fr A H₀ H env ex σ D ((ev T c env).toO fun d => .nx env) := p
    exact (Post.of_toO S.same p' (fun n h => h) (fun h => h)).imp (Same.refl _) fun d _ q v H' e1 r n => q σ H' ex (S.ext e1) (.refl e1)
theorem vs_if {a b : List Stmt} {ca cb : CS} (hc : PT X e (tT X.K W T c)) (ha : PSs X a (tS X.K TB W T fr ca)) (hb : PSs X b (tS X.K TB W T fr cb)) : PS X (.If e a b pos) (tS X.K TB W T fr (.ifS c ca cb)) :=
  PS.imp (ps_if hc ha hb) fun pins s σ H D I ⟨A, H₀, env, ex, S, tk, p⟩ => by
    refine ⟨A, H₀, env, ex, S, ?_⟩
    have p' : Wish X.K TB W fr A H₀ H env ex σ D ((ev T c env).toO fun x => match x with | .bool true => exec T fr ca env | .bool false => exec T fr cb env | _ => .st) := p
    refine (Post.of_toO S.same p' (fun n h => h) (fun h => h)).imp (Same.refl _) fun d hd q => ?_
    clear hd
    have more : ∀ {o : O} {H1 : Hp}, Same H H1 → Wish X.K TB W fr A H₀ H env ex σ D o → Wish X.K TB W fr A H₀ H1 env ex σ D o := fun {o H1} e1 w => by
      cases o with
      | nx env' => exact fun σ' H' ex' S' k => w σ' H' ex' S' ((Keep.refl e1).trans k)
      | rt d => exact w
      | ex n => exact w
      | st => exact w
    cases d <;> first | exact q.elim | skip
    rename_i b
    refine ⟨b, rfl, fun H1 e1 => ?_⟩
    cases b with
    | true => exact iteT ⟨A, H₀, env, ex, S.ext e1, tk.same S e1, more e1 q⟩
    | false => exact iteF ⟨A, H₀, env, ex, S.ext e1, tk.same S e1, more e1 q⟩

/-! ### a name is stored -/
section
variable {K : PySem.W.Frag} {A : Av} {H₀ H H' : Hp} {env : Env} {ex : Nat → Option Addr} {σ : L2.St}
def exS (ex : Nat → Option Addr) (i : Nat) (a : Addr) : Nat → Option Addr := fun j => if j = i then some a else ex j
/-- a name gets a new object of its own -/
theorem SR.setO {i : Nat} {d : D} {a : Addr} (S : SR K A H₀ H env ex σ) (hi : i < env.length) (ha : H₀ a = none) (na : ∀ j, ex j ≠ some a) (nA : ¬ A a) (ho : Own1 H a d)
    (hrep : ∀ j d fl v, env[j]? = some (some (d, fl)) → σ[j]? = some (some v) → RepT K H (fun x => ExM ex A [j] x ∨ x = a) (fun x => ExM ex A [] x ∨ x = a) d v)
    (r : RepT K H (ExM ex A [i]) (fun x => ExM ex A [] x ∨ x = a) d (.ref a)) : SR K A H₀ H (env.set i (some (d, .own))) (exS ex i a) (σ.set i (some (.ref a))) := by
  have sub : ∀ (L : List Nat) x, ExM (exS ex i a) A L x → ExM ex A L x ∨ x = a := fun L x z => by
    rcases z with z | ⟨j, z, n⟩
    · exact .inl (.inl z)
    · unfold exS at z
      split at z
      · cases z; exact .inr rfl
      · exact .inl (.inr ⟨j, z, n⟩)
  refine ⟨by rw [List.length_set, List.length_set]; exact S.len, fun j k b x y => ?_, S.dom, fun j b x => ?_, fun j b x => ?_, S.same, fun j b x => ?_, fun j d' fl h => ?_⟩
  · unfold exS at x y
    split at x
    · split at y
      · rename_i h1 h2; rw [h1, h2]
      · cases x; exact absurd y (na k)
    · split at y
      · cases y; exact absurd x (na j)
      · exact S.inj j k b x y
  · unfold exS at x
    split at x
    · cases x; exact nA
    · exact S.new j b x
  · unfold exS at x
    split at x
    · cases x; exact ha
    · exact S.old j b x
  · unfold exS at x
    split at x
    · rename_i h; subst h; exact ⟨d, .own, List.getElem?_set_self hi, by simp⟩
    · rename_i h
      obtain ⟨d', fl, e1, nf⟩ := S.hasv j b x
      exact ⟨d', fl, by rw [List.getElem?_set_ne (fun e => h e.symm)]; exact e1, nf⟩
  · by_cases hj : i = j
    · subst hj
      rw [List.getElem?_set_self hi] at h
      cases h
      refine ⟨.ref a, List.getElem?_set_self (by rw [S.len]; exact hi), r.anti (fun x z => ?_) (sub _), .inr ⟨a, rfl, by simp [exS], ho⟩⟩
      rcases z with z | ⟨k, z, n⟩
      · exact .inl z
      · unfold exS at z
        split at z
        · rename_i h; exact absurd (by simp [h]) n
        · exact .inr ⟨k, z, n⟩
    · rw [List.getElem?_set_ne hj] at h
      obtain ⟨v', e1, r', o⟩ := S.at_ j d' fl h
      refine ⟨v', by rw [List.getElem?_set_ne hj]; exact e1, (hrep j d' fl v' h e1).anti (sub _) (sub _), o.imp id fun ⟨b, x, y, z⟩ => ⟨b, x, ?_, z⟩⟩
      unfold exS
      rw [if_neg (fun e => hj e.symm)]
      exact y
end
theorem freeze_own {L : List Nat} {env : Env} {i : Nat} {d : D} {fl : Fl} (h : (freeze L env)[i]? = some (some (d, fl))) (nf : fl ≠ .fro) : env[i]? = some (some (d, fl)) ∧ i ∉ L := by
  rw [freeze_get] at h
  split at h
  · cases hq : env[i]? with
    | none => rw [hq] at h; cases h
    | some o =>
      rw [hq] at h
      cases o with
      | none => cases h
      | some p => cases h; exact absurd rfl nf
  · exact ⟨h, by assumption⟩
theorem freeze_none {L : List Nat} {env : Env} {j : Nat} (h : (freeze L env)[j]? = some none) : env[j]? = some none := by
  rw [freeze_get] at h
  split at h
  · cases hq : env[j]? with
    | none => rw [hq] at h; cases h
    | some o =>
      cases o with
      | none => rfl
      | some p => rw [hq] at h; cases h
  · exact h
theorem Keep.freeze {TB : Tbl} {env : Env} {ex : Nat → Option Addr} {σ : L2.St} {H H' : Hp} (L : List Nat) (e : Same H H') : Keep TB env ex σ (freeze L env) (exF ex L) σ H H' where
  k1 := fun b o h _ _ => e b o h
  k2 := fun i b d h1 h2 => .inr ⟨i, d, (exF_some h1).2, (freeze_own h2 (by simp)).1⟩
  k3 := fun i b d h1 h2 => ⟨(exF_some h1).2, d, (freeze_own h2 (by simp)).1⟩
  k4 := freeze_len L env
  k5 := fun j h => ⟨rfl, freeze_none h⟩
  k6 := .same e
theorem set_none {env : Env} {i j : Nat} {p : D × Fl} (h : (env.set i (some p))[j]? = some none) : i ≠ j ∧ env[j]? = some none := by
  by_cases hj : i = j
  · subst hj
    rw [List.getElem?_set] at h
    simp only [if_true] at h
    split at h <;> cases h
  · rw [List.getElem?_set_ne hj] at h
    exact ⟨hj, h⟩
theorem Keep.setF {TB : Tbl} {env : Env} {ex : Nat → Option Addr} {σ : L2.St} {H H' : Hp} {i : Nat} {d : D} {v : Option V} (e : Same H H') : Keep TB env ex σ (env.set i (some (d, .fro))) (exF ex [i]) (σ.set i v) H H' where
  k1 := fun b o h _ _ => e b o h
  k2 := fun j b d' h1 h2 => by
    obtain ⟨n, h1⟩ := exF_some h1
    rw [List.getElem?_set_ne (fun q => n (by simp [q]))] at h2
    exact .inr ⟨j, d', h1, h2⟩
  k3 := fun j b d' h1 h2 => by
    obtain ⟨n, h1⟩ := exF_some h1
    rw [List.getElem?_set_ne (fun q => n (by simp [q]))] at h2
    exact ⟨h1, d', h2⟩
  k4 := List.length_set ..
  k5 := fun j h => by
    obtain ⟨n, h⟩ := set_none h
    exact ⟨List.getElem?_set_ne n, h⟩
  k6 := .same e
theorem bindTs_none {is : List Nat} : ∀ {ds : List D} {env e : Env} {j : Nat}, bindTs is ds env = some e → e[j]? = some none → j ∉ is ∧ env[j]? = some none := by
  induction is with
  | nil =>
    intro ds env e j hb h
    cases ds with
    | nil => simp only [bindTs] at hb; cases hb; exact ⟨by simp, h⟩
    | cons _ _ => simp [bindTs] at hb
  | cons i is ih =>
    intro ds env e j hb h
    cases ds with
    | nil => simp [bindTs] at hb
    | cons d ds =>
      simp only [bindTs] at hb
      split at hb
      · obtain ⟨h1, h2⟩ := ih hb h
        obtain ⟨n, h2⟩ := set_none h2
        exact ⟨by simp only [List.mem_cons, not_or]; exact ⟨fun q => n q.symm, h1⟩, h2⟩
      · cases hb
theorem Keep.bind {TB : Tbl} {is : List Nat} {σ σ' : L2.St} (hσ : ∀ j, j ∉ is → σ'[j]? = σ[j]?) {ds : List D} {env e : Env} {ex : Nat → Option Addr} {H H' : Hp} (hb : bindTs is ds env = some e) (es : Same H H') : Keep TB env ex σ e (exF ex is) σ' H H' := by
  have base : ∀ {is : List Nat} {ds : List D} {env e : Env} {ex : Nat → Option Addr} {H H' : Hp} {τ : L2.St}, bindTs is ds env = some e → Same H H' → ∃ τ', Keep TB env ex τ e (exF ex is) τ' H H' := by
    intro is
    induction is with
    | nil =>
      intro ds env e ex H H' τ hb es
      cases ds with
      | nil =>
        simp only [bindTs] at hb
        cases hb
        have : exF ex [] = ex := by funext i; simp [exF]
        rw [this]; exact ⟨τ, .refl es⟩
      | cons _ _ => simp [bindTs] at hb
    | cons i is ih =>
      intro ds env e ex H H' τ hb es
      cases ds with
      | nil => simp [bindTs] at hb
      | cons d ds =>
        simp only [bindTs] at hb
        split at hb
        · have hee : exF (exF ex [i]) is = exF ex (i :: is) := by rw [exF_exF]; exact exF_congr fun j => by simp [or_comm]
          rw [← hee]
          obtain ⟨τ', q⟩ := ih (ex := exF ex [i]) (τ := τ.set i none) hb (Same.refl H')
          exact ⟨τ', (Keep.setF es).trans q⟩
        · cases hb
  obtain ⟨τ', q⟩ := base (ex := ex) (τ := σ) hb es
  exact ⟨q.k1, q.k2, q.k3, q.k4, fun j h => ⟨hσ j (bindTs_none hb h).1, (bindTs_none hb h).2⟩, q.k6⟩
theorem Keep.bindT {TB : Tbl} {tg : Tg} {d : D} {env e : Env} {ex : Nat → Option Addr} {σ σ' : L2.St} {H H' : Hp} (hb : bindT tg d env = .ok e) (hw : ∀ L, (∀ i ∈ tgS tg, i ∈ L) → wipe σ' L = wipe σ L) (es : Same H H') : Keep TB env ex σ e (exF ex (tgS tg)) σ' H H' := by
  have hσ : ∀ j, j ∉ tgS tg → σ'[j]? = σ[j]? := fun j hj => by
    have := hw (tgS tg) fun _ h => h
    rw [← wipe_get _ j σ' hj, this, wipe_get _ j σ hj]
  cases tg with
  | one i =>
    simp only [L3.bindT] at hb
    split at hb
    · cases hb
      have q : Keep TB env ex σ (env.set i (some (d, .fro))) (exF ex [i]) (σ.set i none) H H' := .setF es
      exact ⟨q.k1, q.k2, q.k3, q.k4, fun j h => ⟨hσ j (fun m => (set_none h).1 (by simp [tgS] at m; exact m.symm)), (set_none h).2⟩, q.k6⟩
    · cases hb
  | tup is =>
    cases d <;> first | (simp [L3.bindT] at hb; done) | skip
    simp only [L3.bindT] at hb
    split at hb
    · cases hb; exact .bind hσ (by assumption) es
    · cases hb
  | pr i is =>
    unfold L3.bindT at hb
    split at hb <;> first | (cases hb; done) | skip
    · rename_i hq; cases hq
    · rename_i hq; cases hq
    · rename_i i' is' d ds hq
      cases hq
      split at hb
      · rename_i hi
        split at hb
        · rename_i e' h
          cases hb
          have hee : exF (exF ex [i]) is = exF ex (i :: is) := by rw [exF_exF]; exact exF_congr fun j => by simp [or_comm]
          have hl : ∀ j, j ∉ is → (wipe (σ.set i none) is)[j]? = (σ.set i none)[j]? := fun j hj => wipe_get _ _ _ hj
          have q := (Keep.setF (TB := TB) (ex := ex) (σ := σ) (v := none) es).trans (Keep.bind hl h (Same.refl H'))
          rw [hee] at q
          refine ⟨q.k1, q.k2, q.k3, q.k4, fun j hj => ⟨hσ j ?_, (q.k5 j hj).2⟩, q.k6⟩
          obtain ⟨h1, h2⟩ := bindTs_none h hj
          simp only [tgS, List.mem_cons, not_or]
          exact ⟨fun z => (set_none h2).1 z.symm, h1⟩
        · cases hb
      · cases hb
def ex1 (c : CE) (d : D) (ex : Nat → Option Addr) : Nat → Option Addr := if atom d then ex else exF ex (lk0 c)
theorem SR.env1 {K : PySem.W.Frag} {A : Av} {H₀ H : Hp} {env : Env} {ex : Nat → Option Addr} {σ : L2.St} {d : D} (S : SR K A H₀ H env ex σ) : SR K A H₀ H (env1 c d env) (ex1 c d ex) σ := by
  unfold L3.env1 ex1
  split
  · exact S
  · exact S.freeze _
theorem Keep.env1 {TB : Tbl} {H H' : Hp} {env : Env} {ex : Nat → Option Addr} {σ : L2.St} {d : D} (e : Same H H') : Keep TB env ex σ (env1 c d env) (ex1 c d ex) σ H H' := by
  unfold L3.env1 ex1
  split
  · exact .refl e
  · exact .freeze _ e
theorem rep1 {K : PySem.W.Frag} {A : Av} {H : Hp} {ex : Nat → Option Addr} {d : D} {v : V} (r : RepT K H (ExM ex A (lk0 c)) (ExM ex A (lk1 c)) d v) : Rep K H (ExM (ex1 c d ex) A []) d v := by
  unfold ex1
  split
  · rename_i ha
    rw [atom_rep ha r]
    exact rep_atom ha
  · exact rep_of (r.anti ExM.exF_of fun a z => ExM.sub (lk1_lk0 c) a (ExM.exF_of a z))
theorem ex1_sub {A : Av} {ex : Nat → Option Addr} {d : D} {i : Nat} {a : Addr} (h : ex1 c d ex i = some a) : ex i = some a := by
  unfold ex1 at h
  split at h
  · exact h
  · exact (exF_some h).2
/-- a new object of the heap is nobody's -/
theorem SR.apart {K : PySem.W.Frag} {A : Av} {H₀ H H' : Hp} {env : Env} {ex : Nat → Option Addr} {σ : L2.St} {a : Addr} (S : SR K A H₀ H env ex σ) (e : Same H H') (ha : H a = none) {j : Nat} {d : D} {fl : Fl} {v : V} (hj : env[j]? = some (some (d, fl))) (hv : σ[j]? = some (some v)) :
    RepT K H' (fun x => ExM ex A [j] x ∨ x = a) (fun x => ExM ex A [] x ∨ x = a) d v := by
  obtain ⟨v', e1, r, _⟩ := S.at_ j d fl hj
  rw [hv] at e1; cases e1
  exact r.stay (fun b o q _ => e b o q) (fun x z => z.imp id fun h => by rw [h]; exact ha) (fun b o q _ => e b o q) fun x z => z.imp id fun h => by rw [h]; exact ha

/-! ### assignment -/
section
variable {K : PySem.W.Frag} {A B : Av} {H₀ H H' : Hp} {env : Env} {ex : Nat → Option Addr} {σ : L2.St}
theorem RepT.top {d : D} {a : Addr} (ow : ownable d = true) (h : RepT K H (fun _ => False) A d (.ref a)) (nb : ¬ B a) : RepT K H B A d (.ref a) := by
  cases d <;> first | cases ow | skip
  · obtain ⟨a', vs, e, hr, hk⟩ := h
    cases e
    exact ⟨a, vs, rfl, hr.imp (fun z => ⟨nb, z.2⟩) id, hk⟩
  · obtain ⟨a', e, _, hr, hk⟩ := h
    cases e
    exact ⟨a, rfl, nb, hr, hk⟩
theorem Keep.setO {TB : Tbl} {i : Nat} {d : D} {a : Addr} {v : Option V} (e : Same H H') (ha : H a = none) : Keep TB env ex σ (env.set i (some (d, .own))) (exS ex i a) (σ.set i v) H H' where
  k1 := fun b o h _ _ => e b o h
  k2 := fun j b d' h1 h2 => by
    unfold exS at h1
    split at h1
    · cases h1; exact .inl (rt_none ha)
    · rename_i h
      rw [List.getElem?_set_ne (fun e => h e.symm)] at h2
      exact .inr ⟨j, d', h1, h2⟩
  k3 := fun j b d' h1 h2 => by
    unfold exS at h1
    split at h1
    · rename_i h
      subst h
      cases h1
      by_cases hl : j < env.length
      · rw [List.getElem?_set_self hl] at h2; cases h2
      · rw [List.getElem?_eq_none (by rw [List.length_set]; exact Nat.le_of_not_lt hl)] at h2; cases h2
    · rename_i h
      rw [List.getElem?_set_ne (fun e => h e.symm)] at h2
      exact ⟨h1, d', h2⟩
  k4 := List.length_set ..
  k5 := fun j h => by
    obtain ⟨n, h⟩ := set_none h
    exact ⟨List.getElem?_set_ne n, h⟩
  k6 := .same e
end
section
variable {X : Cx} {TB : Tbl} {W : Wn} {T : FT} {fr : Bool} {e : Expr} {c : CE} {pos : Pos}
theorem asg_imp {i : Nat} {σ : L2.St} {H : Hp} {D : Ends} (h : tS X.K TB W T fr (.asg (.one i) c) D σ H) : tAsg (tE X.K W T c) (gName i) D σ H := by
  obtain ⟨A, H₀, env, ex, S, tk, p⟩ := h
  refine ⟨A, H₀, env, ex, S, ?_⟩
  have p' : Wish X.K TB W fr A H₀ H env ex σ D ((ev T c env).toO fun d => (asgE T (.one i) c d env).toO fun e => .nx e) := p
  refine (Post.of_toO S.same p' (fun n h => h) (fun h => h)).imp (Same.refl _) fun d _ q v H1 e1 r n => ?_
  have hl : (L3.env1 c d env).length = env.length := by unfold L3.env1; split; rfl; exact freeze_len _ _
  have q' : Wish X.K TB W fr A H₀ H env ex σ D ((if i < (L3.env1 c d env).length then R.ok ((L3.env1 c d env).set i (some (d, if (fresh T c && ownable d) = true then .own else .fro))) else R.stuck).toO fun e => .nx e) := q
  split at q'
  · rename_i hi
    have S1 : SR X.K A H₀ H1 (L3.env1 c d env) (ex1 c d ex) σ := (S.ext e1).env1
    by_cases hf : (fresh T c && ownable d) = true
    · rw [if_pos hf] at q'
      rw [Bool.and_eq_true] at hf
      obtain ⟨a, ev, na, oa, ra⟩ := n hf.1 hf.2
      subst ev
      have S0 : SR X.K A H₀ H (L3.env1 c d env) (ex1 c d ex) σ := S.env1
      refine q' _ H1 (exS (ex1 c d ex) i a) (S1.setO hi (S.same.free na) (fun j z => S0.exSome z na) (fun z => S.dom a z na) oa (fun j d' fl v h hv => S0.apart e1 na h hv) ?_) ((Keep.env1 (Same.refl _)).trans (.setO e1 na))
      refine RepT.top hf.2 (ra.anti (fun _ z => z) fun x z => z.imp (fun y => ?_) id) fun z => ?_
      · have at' : atom d = false := by cases d <;> first | rfl | cases hf.2
        unfold ex1 at y
        rw [at'] at y
        exact ExM.sub (lk1_lk0 c) x (ExM.exF_of x y)
      · exact S0.exDom [i] a z na
    · rw [if_neg hf] at q'
      exact q' _ H1 _ (S1.setF hi ((rep1 r).anti ExM.exF_sub)) ((Keep.env1 (Same.refl _)).trans (.setF e1))
  · exact q'.elim
theorem vs_asg {i : Nat} {x : Str} {pos' : Pos} (hN : X.N.Nodup) (hi : X.N[i]? = some x) (hx : Loc X.env.scope x) (hf : X.fn x = true ∨ X.env.scope.names.lookup x = some .local) (he : PE X e (tE X.K W T c)) (hs : swapsWith e (some (.Name x pos')) pos.line X.env = pure false) :
    PS X (.Assign [.Name x pos'] e pos) (tS X.K TB W T fr (.asg (.one i) c)) :=
  PS.imp (ps_set hN hi hx he hs hf) fun pins s σ H D I h => asg_imp h
theorem vs_asgT {is : List Nat} {es : List Expr} {k : Nat} {tpos : Pos} (hc : X.calm = true) (hN : X.N.Nodup) (hn : NameL X es is) (he : PE X e (tE X.K W T c)) (hs : swapsWithSole [.Tuple es k tpos] e pos.line X.env = pure false) (hw : swappedStores [.Tuple es k tpos] e X.env = pure none) :
    PS X (.Assign [.Tuple es k tpos] e pos) (tS X.K TB W T fr (.asg (.tup is) c)) :=
  PS.imp (ps_asg he (vg_tup hc hN hn) hs hw rfl) fun pins s σ H D I ⟨A, H₀, env, ex, S, tk, p⟩ => by
    refine ⟨A, H₀, env, ex, S, ?_⟩
    have p' : Wish X.K TB W fr A H₀ H env ex σ D ((ev T c env).toO fun d => (asgE T (.tup is) c d env).toO fun e => .nx e) := p
    refine (Post.of_toO S.same p' (fun n h => h) (fun h => h)).imp (Same.refl _) fun d _ q v H1 e1 r n => ?_
    have q' : Wish X.K TB W fr A H₀ H env ex σ D ((bindT (.tup is) d (L3.env1 c d env)).toO fun e => .nx e) := q
    have S1 : SR X.K A H₀ H1 (L3.env1 c d env) (ex1 c d ex) σ := (S.ext e1).env1
    cases hb : bindT (.tup is) d (L3.env1 c d env) with
    | ok e2 =>
      rw [hb] at q'
      show gT X.K (.tup is) v σ H1 D.nx
      exact bind_t hb S1 (rep1 r) fun σ' S2 hw => q' σ' H1 _ S2 ((Keep.env1 e1).trans (.bindT hb hw (Same.refl _)))
    | exc n => exact absurd hb bindT_ne
    | stuck => rw [hb] at q'; exact q'.elim

/-! ### a list of one's own changes -/
theorem SR.mutL {K : PySem.W.Frag} {A : Av} {H₀ H : Hp} {env : Env} {ex : Nat → Option Addr} {σ : L2.St} {i : Nat} {xs ds : List D} {us : List V} {a : Addr} {vs : List V} (S : SR K A H₀ H env ex σ) (h : env[i]? = some (some (.list xs, .own))) (ha : ex i = some a) (hH : H a = some (.lst vs))
    (r : Reps K H (ExM ex A []) ds us) : SR K A H₀ (upd H a (.lst us)) (env.set i (some (.list ds, .own))) ex σ := by
  have hi : i < env.length := (List.getElem?_eq_some_iff.mp h).1
  have aIn : ExM ex A [] a := .inr ⟨i, ha, by simp⟩
  have up : ∀ b o, H b = some o → b ≠ a → upd H a (.lst us) b = some o := fun b o e n => by rw [upd_ne n]; exact e
  have stay : ∀ b o, H b = some o → (¬ ExM ex A [] b ∨ tupo o = true) → upd H a (.lst us) b = some o := fun b o e z => up b o e fun q => by
    subst q
    rcases z with z | z
    · exact z aIn
    · rw [hH] at e; cases e; cases z
  refine ⟨by rw [List.length_set]; exact S.len, S.inj, fun b z q => ?_, S.new, S.old, fun b o e => up b o (S.same b o e) fun q => ?_, fun j b x => ?_, fun j d fl hj => ?_⟩
  · by_cases e : b = a
    · subst e; rw [upd_same] at q; cases q
    · rw [upd_ne e] at q; exact S.dom b z q
  · subst q
    rw [S.old i b ha] at e; cases e
  · obtain ⟨d, fl, e1, nf⟩ := S.hasv j b x
    by_cases hj : i = j
    · subst hj; exact ⟨_, _, List.getElem?_set_self hi, by simp⟩
    · exact ⟨d, fl, by rw [List.getElem?_set_ne hj]; exact e1, nf⟩
  · by_cases hij : i = j
    · subst hij
      rw [List.getElem?_set_self hi] at hj
      cases hj
      obtain ⟨v, e1, r1, o⟩ := S.at_ i _ _ h
      rcases o with o | ⟨b, ev, eb, ob⟩
      · cases o
      · rw [ha] at eb; cases eb
        refine ⟨v, e1, ⟨a, us, ev, .inl ⟨fun z => ?_, .inl upd_same⟩, Reps.stay stay (fun _ z => .inl z) _ _ r⟩, .inr ⟨a, ev, ha, us, upd_same⟩⟩
        rcases z with z | ⟨j, z, n⟩
        · exact S.new i a ha z
        · exact n (by rw [S.inj j i a z ha]; exact List.mem_singleton_self i)
    · rw [List.getElem?_set_ne hij] at hj
      obtain ⟨v, e1, r1, o⟩ := S.at_ j d fl hj
      refine ⟨v, e1, r1.stay stay (fun _ z => .inl z) (fun b o' e z => up b o' e fun q => ?_) (fun _ z => .inl z), o.imp id fun ⟨b, ev, eb, ob⟩ => ⟨b, ev, eb, ?_⟩⟩
      · subst q
        exact z (.inr ⟨i, ha, by simpa using fun q => hij q⟩)
      · have hba : b ≠ a := fun q => hij (S.inj i j a ha (q ▸ eb))
        cases d <;> first | exact ob.elim | (obtain ⟨ws, ob⟩ := ob; exact ⟨ws, by rw [upd_ne hba]; exact ob⟩)
theorem Keep.mutL {TB : Tbl} {env : Env} {ex : Nat → Option Addr} {σ : L2.St} {H : Hp} {i : Nat} {d ds : D} {a : Addr} (h : env[i]? = some (some (d, .own))) (ha : ex i = some a) {vs us : List V} (hH : H a = some (.lst vs)) : Keep TB env ex σ (env.set i (some (ds, .own))) ex σ H (upd H a (.lst us)) where
  k1 := fun b o' e _ n => by rw [upd_ne (fun q : b = a => n i d (by rw [q]; exact ha) h)]; exact e
  k2 := fun j b d' h1 h2 => by
    by_cases hj : i = j
    · subst hj; exact .inr ⟨i, d, h1, h⟩
    · rw [List.getElem?_set_ne hj] at h2; exact .inr ⟨j, d', h1, h2⟩
  k3 := fun j b d' h1 h2 => by
    by_cases hj : i = j
    · subst hj
      rw [List.getElem?_set_self (List.getElem?_eq_some_iff.mp h).1] at h2; cases h2
    · rw [List.getElem?_set_ne hj] at h2; exact ⟨h1, d', h2⟩
  k4 := List.length_set ..
  k5 := fun j h => ⟨rfl, (set_none h).2⟩
  k6 := .updL hH
theorem ex1_own {env : Env} {d : D} {i : Nat} {x : D} (h : (L3.env1 c d env)[i]? = some (some (x, .own))) : env[i]? = some (some (x, .own)) := by
  unfold L3.env1 at h
  split at h
  · exact h
  · exact (freeze_own h (by simp)).1
theorem few1 {cpos : Pos} {env : PySem.Env} (hn : notStar e = true) : ((backTo cpos (starEach [e] env)).all (fun x => !x.1) && (backToKw cpos (keywordEach [] env)).all (fun x => x.1.isSome)
      && decide (([e] : List Expr).length + ([] : List Keyword).length + (if ([] : List Keyword).isEmpty then 0 else 1) < 30)) = true := by
  rw [star_cons hn]; rfl
theorem own_at {K : PySem.W.Frag} {A : Av} {H₀ H : Hp} {env : Env} {ex : Nat → Option Addr} {σ : L2.St} {i : Nat} {xs : List D} (hinj : ∀ a us ws, ex i = some a → H a = some (.lst us) → (∀ H', SqL K H' a ws) → us = ws) (S : SR K A H₀ H env ex σ) (h : env[i]? = some (some (.list xs, .own))) :
    ∃ a vs, σ[i]? = some (some (.ref a)) ∧ ex i = some a ∧ H a = some (.lst vs) ∧ Reps K H (ExM ex A []) xs vs := by
  obtain ⟨v, e1, r, o⟩ := S.at_ i _ _ h
  rcases o with o | ⟨a, ev, ea, us, oa⟩
  · cases o
  · subst ev
    obtain ⟨a', vs, e2, hr, hk⟩ := r
    cases e2
    have hu : us = vs := by
      rcases hr with ⟨_, hr | ⟨ob, hr⟩⟩ | hr
      · rw [oa] at hr; cases hr; rfl
      · rw [oa] at hr; cases hr
      · exact hinj _ _ _ ea oa fun _ => .inr hr
    subst hu
    exact ⟨a, us, e1, ea, oa, hk⟩
theorem vs_app {i : Nat} {x : Str} {p1 p2 p3 : Pos} (hN : X.N[i]? = some x) (hv : Vis X.env.scope x) (hd : (x == ("__debug__" : Str)) = false) (hcd : (x == ("__classdict__" : Str)) = false) (hline : (p2.endLine == p3.line) = true) (hn : notStar e = true) (he : PE X e (tE X.K W T c)) :
    PS X (.Expr (.Call (.Attribute (.Name x p1) "append" p2) [e] [] p3) pos) (tS X.K TB W T fr (.app i c)) :=
  PS.imp (ps_expr (pe_bm PySem.F.plainAttrs_list PySem.F.slot_list_append PySem.F.type_list_append mt_append (pe_var hN hv hd hcd) (pa_cons he pa_nil (star_cons hn)) rfl (few1 hn) hline (star_cons hn) rfl)) fun pins s σ H D I ⟨A, H₀, env, ex, S, tk, p⟩ => by
    have pw : Wish X.K TB W fr A H₀ H env ex σ D (exec T fr (.app i c) env) := p
    clear p
    simp only [exec] at pw
    split at pw
    · rename_i xs0 h0
      obtain ⟨a, vs, e1, ea, ha, hk⟩ := own_at (fun a us ws _ h h' => I.list_inj (.inl (.inl h)) (h' _)) S h0
      refine ⟨.ref a, e1, .inl ⟨rfl, vs, SqL.of ha⟩, A, H₀, env, ex, S, ?_⟩
      have p' : Wish X.K TB W fr A H₀ H env ex σ D ((ev T c env).toO fun d => match (L3.env1 c d env)[i]? with
        | some (some (.list xs, .own)) => if xs.length < lim then .nx ((L3.env1 c d env).set i (some (.list (xs ++ [d]), .own))) else .st
        | _ => .st) := pw
      refine (Post.of_toO S.same p' (fun n h => h) (fun h => h)).imp (Same.refl _) fun d _ q v H1 e2 r n => ?_
      split at q
      · rename_i xs h1
        split at q
        · rename_i hl
          have h1' := ex1_own h1
          rw [h0] at h1'
          cases h1'
          have S1 : SR X.K A H₀ H1 (L3.env1 c d env) (ex1 c d ex) σ := (S.ext e2).env1
          obtain ⟨a2, vs2, e3, ea2, ha2, hk2⟩ := own_at (fun a' us ws hx h h' => by
            have hx' := ex1_sub (A := A) hx
            rw [ea] at hx'; cases hx'
            rw [e2 _ _ ha] at h; cases h
            exact I.list_inj (.inl (.inl ha)) (h' _)) S1 h1
          rw [e1] at e3; cases e3
          have hvv : vs = vs2 := by
            rw [e2 _ _ ha] at ha2; cases ha2; rfl
          subst hvv
          refine ⟨a, vs, v, rfl, rfl, ha2, by rw [← hk.length, ← lim_eq]; exact hl, q σ _ _ (S1.mutL h1 ea2 ha2 (hk2.append (.cons (rep1 r) .nil))) ((Keep.env1 e2).trans (.mutL h1 ea2 ha2))⟩
        · exact q.elim
      · exact q.elim
    · exact pw.elim

theorem few2 {e' : Expr} {cpos : Pos} {env : PySem.Env} (hn : notStar e = true) (hn' : notStar e' = true) : ((backTo cpos (starEach [e, e'] env)).all (fun x => !x.1) && (backToKw cpos (keywordEach [] env)).all (fun x => x.1.isSome)
      && decide (([e, e'] : List Expr).length + ([] : List Keyword).length + (if ([] : List Keyword).isEmpty then 0 else 1) < 30)) = true := by
  rw [star_cons hn, star_cons hn']; rfl
theorem vs_ins {i : Nat} {x : Str} {e' : Expr} {k : CE} {p1 p2 p3 : Pos} (hN : X.N[i]? = some x) (hv : Vis X.env.scope x) (hd : (x == ("__debug__" : Str)) = false) (hcd : (x == ("__classdict__" : Str)) = false) (hline : (p2.endLine == p3.line) = true) (hn : notStar e' = true) (hn2 : notStar e = true) (hk : PE X e' (tE X.K W T k)) (he : PE X e (tE X.K W T c)) :
    PS X (.Expr (.Call (.Attribute (.Name x p1) "insert" p2) [e', e] [] p3) pos) (tS X.K TB W T fr (.ins i k c)) :=
  PS.imp (ps_expr (pe_bm PySem.F.plainAttrs_list PySem.F.slot_list_insert PySem.F.type_list_insert mt_insert (pe_var hN hv hd hcd) (pa_cons hk (pa_cons he pa_nil (star_cons hn2)) (star_cons hn)) rfl (few2 hn hn2) hline (star_cons hn) (star_none (by simp [hn2])))) fun pins s σ H D I ⟨A, H₀, env, ex, S, tk, p⟩ => by
    have pw : Wish X.K TB W fr A H₀ H env ex σ D (exec T fr (.ins i k c) env) := p
    clear p
    simp only [exec] at pw
    split at pw
    · rename_i xs0 h0
      obtain ⟨a, vs, e1, ea, ha, hk0⟩ := own_at (fun a us ws _ h h' => I.list_inj (.inl (.inl h)) (h' _)) S h0
      refine ⟨.ref a, e1, .inl ⟨rfl, vs, SqL.of ha⟩, A, H₀, env, ex, S, ?_⟩
      refine (Post.of_toO S.same pw (fun n h => h) (fun h => h)).imp (Same.refl _) fun dj _ pj w H0 e0 rj _ => ?_
      refine ⟨A, H₀, env, ex, S.ext e0, ?_⟩
      refine (Post.of_toO S.same pj (fun n h => h) (fun h => h)).imp e0 fun d _ q v H1 e2' r n => ?_
      have e2 := e0.trans e2'
      cases dj <;> first | exact (show False from q).elim | skip
      rename_i j _ _
      cases rj
      split at q
      · rename_i xs hj h1
        cases hj
        split at q
        · rename_i hl
          have h1' := ex1_own h1
          rw [h0] at h1'
          cases h1'
          have S1 : SR X.K A H₀ H1 (L3.env1 c d env) (ex1 c d ex) σ := (S.ext e2).env1
          obtain ⟨a2, vs2, e3, ea2, ha2, hk2⟩ := own_at (fun a' us ws hx h h' => by
            have hx' := ex1_sub (A := A) hx
            rw [ea] at hx'; cases hx'
            rw [e2 _ _ ha] at h; cases h
            exact I.list_inj (.inl (.inl ha)) (h' _)) S1 h1
          rw [e1] at e3; cases e3
          have hvv : vs = vs2 := by
            rw [e2 _ _ ha] at ha2; cases ha2; rfl
          subst hvv
          refine ⟨a, vs, j, v, rfl, rfl, ha2, by rw [← hk0.length, ← lim_eq]; exact hl.1, hl.2.1, hl.2.2, q σ _ _ (S1.mutL h1 ea2 ha2 (((hk2.take j.toNat).append (.cons (rep1 r) .nil)).append (hk2.drop j.toNat))) ((Keep.env1 e2).trans (.mutL h1 ea2 ha2))⟩
        · exact q.elim
      · exact q.elim
    · exact pw.elim

/-! ### extend -/

theorem ext_meets (cn : String) (hcn : cn = "list" ∨ cn = "tuple") (l : Addr) (items : Array Value) (n : Nat) (b : Addr) (items2 : Array Value) (n2 : Nat) (dd2 : Option Addr) (sl2 : Array (Option Value)) (hs0 : ¬(!items.isEmpty && Builtin.List.listTooLong (items.size + items2.size)) = true) (hs1 : items.size ≤ sizeLine) (hs2 : items.size + items2.size ≤ sizeLine + 1) :
    Meets (Builtin.«list.extend» ⟨[.ref l, .ref b], []⟩) (fun _ R s => s.heap.get? l = some { cls := .type "list", dict := none, data := .seq items n, slots := #[] } ∧ s.heap.get? b = some { cls := .type cn, dict := dd2, data := .seq items2 n2, slots := sl2 } ∧ R (.ok (.ret Value.none)) { s with heap := s.heap.update l (Obj.mapSeq fun x => x ++ items2), toks := s.toks }) := by
  rcases hcn with rfl | rfl
  · exact .of_wp fun prog w A R s h => by
      obtain ⟨hp, g, d, tk, os⟩ := s; obtain ⟨hl, hb, h⟩ := h; have f1 := PySem.AutoSeq1.idx_int; have f2 := PySem.AutoSeq1.sub_tuple_tuple; have f3 := PySem.AutoSeq1.sub_list_list; have f4 := PySem.AutoSeq1.sub_tuple_list; have f5 := PySem.AutoSeq1.sub_list_tuple;
      have hz' : (items ++ items2).size ≤ sizeLine + 1 := by rw [Array.size_append]; exact hs2
      wp_walk using (wpAny_updateSeq hl rfl (hz := hs1) (_hz' := hz')), PySem.AutoSeq1.wpAny_loadPart' hl, PySem.AutoSeq1.wpAny_loadPart' hb; exact ⟨_, rfl, h⟩
  · exact .of_wp fun prog w A R s h => by
      obtain ⟨hp, g, d, tk, os⟩ := s; obtain ⟨hl, hb, h⟩ := h; have f1 := PySem.AutoSeq1.idx_int; have f2 := PySem.AutoSeq1.sub_tuple_tuple; have f3 := PySem.AutoSeq1.sub_list_list; have f4 := PySem.AutoSeq1.sub_tuple_list; have f5 := PySem.AutoSeq1.sub_list_tuple;
      have hz' : (items ++ items2).size ≤ sizeLine + 1 := by rw [Array.size_append]; exact hs2
      wp_walk using (wpAny_updateSeq hl rfl (hz := hs1) (_hz' := hz')), PySem.AutoSeq1.wpAny_loadPart' hl, PySem.AutoSeq1.wpAny_loadPart' hb; exact ⟨_, rfl, h⟩
def rExtA (K : PySem.W.Frag) : V → List V → Hp → VK → Prop := fun x vs H Q => ∃ l b xs zs, x = .ref l ∧ vs = [.ref b] ∧ H l = some (.lst xs) ∧ (SqL K H b zs ∨ SqT K H b zs) ∧ xs.length + zs.length ≤ sizeLine ∧ Q .non (upd H l (.lst (xs ++ zs)))
theorem mt_extA : MtM X "list.extend" (rExtA X.K) := by
  intro pins s σ H x vs v us Q I rx rv h
  obtain ⟨l, b, xs, zs, rfl, rfl, hH, hB, hz, q⟩ := h
  cases rx
  obtain ⟨u, rfl, ru⟩ := rv.one
  cases ru
  obtain ⟨z, its, n, r, hl, e⟩ := I.lstM hH
  have key : ∃ (cn : String) (its2 : List Value) (n2 : Nat) (dd2 : Option Addr) (sl2 : Array (Option Value)), (cn = "list" ∨ cn = "tuple") ∧ Vals zs its2 ∧ s.heap.get? b = some { cls := .type cn, dict := dd2, data := .seq its2.toArray n2, slots := sl2 } := by
    rcases hB with hB | hB
    · obtain ⟨its2, r2, p, _⟩ := I.list hB
      obtain ⟨⟨cls, dd, data, sl⟩, n2, ho, hc, _, hd⟩ := p
      simp only at hc hd
      subst hc hd
      exact ⟨"list", its2, n2, dd, sl, .inl rfl, r2, ho⟩
    · obtain ⟨its2, r2, p, _⟩ := I.tuple hB
      obtain ⟨⟨cls, dd, data, sl⟩, ho, hc, n2, hd⟩ := p
      simp only at hc hd
      subst hc hd
      exact ⟨"tuple", its2, n2, dd, sl, .inr rfl, r2, ho⟩
  obtain ⟨cn, its2, n2, dd2, sl2, hcn, r2, e2⟩ := key
  have hl2 := r2.length
  have hsz : its.toArray.size + its2.toArray.size ≤ sizeLine := by rw [List.size_toArray, List.size_toArray]; omega
  have hlong : ¬ (!its.toArray.isEmpty && Builtin.List.listTooLong (its.toArray.size + its2.toArray.size)) = true := by
    rw [notLongL hsz, Bool.and_false]
    exact Bool.false_ne_true
  refine call_meets PySem.F.slot_list_extend ⟨_, e, rfl⟩ PySem.F.entry_list_extend (PySem.F.args_list_extend_2 _ _)
    (ext_meets cn hcn l its.toArray n b its2.toArray n2 dd2 sl2 hlong (by rw [List.size_toArray]; omega) (by omega)) ⟨e, e2, ?_⟩
  refine ⟨.non, _, I.lset (its' := its ++ its2) hH e (by simp) (r.append r2) ?_, rfl, q⟩
  rw [List.length_append]
  omega
theorem vs_ext {i : Nat} {x : Str} {p1 p2 p3 : Pos} (hN : X.N[i]? = some x) (hv : Vis X.env.scope x) (hd : (x == ("__debug__" : Str)) = false) (hcd : (x == ("__classdict__" : Str)) = false) (hline : (p2.endLine == p3.line) = true) (hn : notStar e = true) (he : PE X e (tE X.K W T c)) :
    PS X (.Expr (.Call (.Attribute (.Name x p1) "extend" p2) [e] [] p3) pos) (tS X.K TB W T fr (.ext i c)) :=
  PS.imp (ps_expr (pe_bm PySem.F.plainAttrs_list PySem.F.slot_list_extend PySem.F.type_list_extend mt_extA (pe_var hN hv hd hcd) (pa_cons he pa_nil (star_cons hn)) rfl (few1 hn) hline (star_cons hn) rfl)) fun pins s σ H D I ⟨A, H₀, env, ex, S, tk, p⟩ => by
    have pw : Wish X.K TB W fr A H₀ H env ex σ D (exec T fr (.ext i c) env) := p
    clear p
    simp only [exec] at pw
    split at pw
    · rename_i xs0 h0
      obtain ⟨a, vs, e1, ea, ha, hk⟩ := own_at (fun a us ws _ h h' => I.list_inj (.inl (.inl h)) (h' _)) S h0
      refine ⟨.ref a, e1, .inl ⟨rfl, vs, SqL.of ha⟩, A, H₀, env, ex, S, ?_⟩
      refine (Post.of_toO S.same pw (fun n h => h) (fun h => h)).imp (Same.refl _) fun d _ q v H1 e2 r n => ?_
      split at q
      · rename_i xs ds h1 hit
        split at q
        · rename_i hl
          have h1' := (freeze_own h1 (by simp)).1
          rw [h0] at h1'
          cases h1'
          have S1 : SR X.K A H₀ H1 (freeze (lk1 c) env) (exF ex (lk1 c)) σ := (S.ext e2).freeze _
          obtain ⟨a2, vs2, e3, ea2, ha2, hk2⟩ := own_at (fun a' us ws hx h h' => by
            have hx' := (exF_some hx).2
            rw [ea] at hx'; cases hx'
            rw [e2 _ _ ha] at h; cases h
            exact I.list_inj (.inl (.inl ha)) (h' _)) S1 h1
          rw [e1] at e3; cases e3
          have hvv : vs = vs2 := by
            rw [e2 _ _ ha] at ha2; cases ha2; rfl
          subst hvv
          have key : ∃ (b : Addr) (us : List V), v = .ref b ∧ (SqL X.K H1 b us ∨ SqT X.K H1 b us) ∧ Reps X.K H1 (ExM ex A (lk1 c)) ds us := by
            cases d <;> first | (cases hit; done) | skip
            · cases hit
              obtain ⟨b, us, rfl, hb, kb⟩ := r
              exact ⟨b, us, rfl, .inl hb.sql, kb⟩
            · cases hit
              cases r with
              | @tup b us _ hb kb => exact ⟨b, us, rfl, .inr hb, kb⟩
          obtain ⟨b, us, rfl, hb, kb⟩ := key
          exact ⟨a, b, vs, us, rfl, rfl, ha2, hb, by rw [← hk.length, ← kb.length, ← lim_eq]; exact hl, q σ _ _ (S1.mutL h1 ea2 ha2 (hk2.append (kb.anti ExM.exF_of))) ((Keep.freeze (lk1 c) e2).trans (.mutL h1 ea2 ha2))⟩
        · exact q.elim
      · exact q.elim
    · exact pw.elim
/-! ### name += e, name -= e -/
theorem aug_imp {i : Nat} {o : B2} {f : Int → Int → Int} (hf : ∀ a d z, augD o a d = some z → ∃ b, d = .int b ∧ z = f a b) {σ : L2.St} {H : Hp} {D : Ends} (h : tS X.K TB W T fr (.aug o i c) D σ H) : tAug i (tE X.K W T c) (ipI f) D σ H := by
  obtain ⟨A, H₀, env, ex, S, tk, p⟩ := h
  have pw : Wish X.K TB W fr A H₀ H env ex σ D (exec T fr (.aug o i c) env) := p
  clear p
  simp only [exec] at pw
  split at pw
  · rename_i a fl h0
    obtain ⟨v, e1, r, _⟩ := S.at_ i _ _ h0
    cases r
    refine ⟨_, e1, A, H₀, env, ex, S, ?_⟩
    refine (Post.of_toO S.same pw (fun n h => h) (fun h => h)).imp (Same.refl _) fun d _ q v H1 e2 r n => ?_
    cases hz : augD o a d with
    | none => rw [hz] at q; exact (show False from q).elim
    | some z =>
      rw [hz] at q
      obtain ⟨b, rfl, rfl⟩ := hf _ _ _ hz
      cases r
      exact ⟨a, b, rfl, rfl, q _ H1 _ ((S.ext e2).setF (List.getElem?_eq_some_iff.mp h0).1 (.int _)) (.setF e2)⟩
  · exact pw.elim
theorem vs_augA {i : Nat} {x : Str} {pos' : Pos} (hN : X.N.Nodup) (hi : X.N[i]? = some x) (hx : Loc X.env.scope x) (hf : X.fn x = true ∨ X.env.scope.names.lookup x = some .local) (he : PE X e (tE X.K W T c)) :
    PS X (.AugAssign (.Name x pos') .Add e pos) (tS X.K TB W T fr (.aug .add i c)) :=
  PS.imp (ps_aug hN hi hx he ip_add hf) fun pins s σ H D I h => aug_imp (fun a d z h => by
    cases d <;> simp [augD] at h
    exact ⟨_, rfl, h.symm⟩) h
theorem vs_augS {i : Nat} {x : Str} {pos' : Pos} (hN : X.N.Nodup) (hi : X.N[i]? = some x) (hx : Loc X.env.scope x) (hf : X.fn x = true ∨ X.env.scope.names.lookup x = some .local) (he : PE X e (tE X.K W T c)) :
    PS X (.AugAssign (.Name x pos') .Sub e pos) (tS X.K TB W T fr (.aug .sub i c)) :=
  PS.imp (ps_aug hN hi hx he ip_sub hf) fun pins s σ H D I h => aug_imp (fun a d z h => by
    cases d <;> simp [augD] at h
    exact ⟨_, rfl, h.symm⟩) h

/-! ### loops -/
theorem unlock1_get (i j : Nat) (env0 env : Env) : (unlock1 i env0 env)[j]? = if j = i then (match env0[i]?, env[i]? with | some (some (_, .own)), some (some (d, .lock)) => some (some (d, .own)) | _, o => o) else env[j]? := by
  unfold unlock1
  split
  · rename_i d0 d h0 h
    by_cases hj : j = i
    · subst hj
      rw [if_pos rfl, List.getElem?_set_self (List.getElem?_eq_some_iff.mp h).1] <;> first | rfl | rw [h0, h]
    · rw [if_neg hj, List.getElem?_set_ne (Ne.symm hj)]
  · rename_i hn
    by_cases hj : j = i
    · subst hj
      rw [if_pos rfl] <;> (split <;> first | rfl | (rename_i h1 h2; exact absurd h2 (hn _ _ h1)))
    · rw [if_neg hj]
end
end
end L3

set_option Elab.async false
set_option linter.all false
set_option maxRecDepth 100000
set_option maxHeartbeats 1000000
/-! loops, extend, raise -/
namespace L3
open PySem PySem.Spec PyProof.Rows L2

/-! ### locks -/
theorem lock1_get (i j : Nat) (env : Env) : (lock1 i env)[j]? = if j = i then (match env[i]? with | some (some (d, .own)) => some (some (d, .lock)) | o => o) else env[j]? := by
  unfold lock1
  split
  · rename_i d h
    by_cases hj : j = i
    · subst hj
      rw [if_pos rfl, List.getElem?_set_self (List.getElem?_eq_some_iff.mp h).1] <;> first | rfl | rw [h]
    · rw [if_neg hj, List.getElem?_set_ne (Ne.symm hj)]
  · rename_i hn
    by_cases hj : j = i
    · subst hj
      rw [if_pos rfl] <;> (split <;> first | rfl | (rename_i d h; exact absurd h (hn d)))
    · rw [if_neg hj]
theorem lock1_len (i : Nat) (env : Env) : (lock1 i env).length = env.length := by unfold lock1; split <;> simp
theorem unlock1_len (i : Nat) (env0 env : Env) : (unlock1 i env0 env).length = env.length := by unfold unlock1; split <;> simp
theorem lockL_len : ∀ (L : List Nat) (env : Env), (lockL L env).length = env.length
  | [], _ => rfl
  | i :: L, env => by unfold lockL; rw [lockL_len L, lock1_len]
theorem unlockL_len : ∀ (L : List Nat) (env0 env : Env), (unlockL L env0 env).length = env.length
  | [], _, _ => rfl
  | i :: L, env0, env => by unfold unlockL; rw [unlockL_len L, unlock1_len]
/-- a name locked: as before, or own and now locked -/
theorem lockL_get : ∀ (L : List Nat) (j : Nat) (env : Env) (d : D) (fl : Fl), (lockL L env)[j]? = some (some (d, fl)) → (env[j]? = some (some (d, fl)) ∧ (fl = .own → j ∉ L)) ∨ (fl = .lock ∧ j ∈ L ∧ env[j]? = some (some (d, .own)))
  | [], j, env, d, fl, h => .inl ⟨h, by simp⟩
  | i :: L, j, env, d, fl, h => by
    unfold lockL at h
    rcases lockL_get L j _ d fl h with ⟨h1, h2⟩ | ⟨h1, h2, h3⟩
    · rw [lock1_get] at h1
      by_cases hj : j = i
      · subst hj
        rw [if_pos rfl] at h1
        split at h1
        · rename_i d' hq
          cases h1
          exact .inr ⟨rfl, by simp, hq⟩
        · rename_i hn
          refine .inl ⟨h1, fun e => ?_⟩
          subst e
          exact absurd h1 (hn d)
      · rw [if_neg hj] at h1
        exact .inl ⟨h1, fun e => by simp [hj, h2 e]⟩
    · rw [lock1_get] at h3
      by_cases hj : j = i
      · subst hj
        rw [if_pos rfl] at h3
        split at h3
        · cases h3
        · rename_i hn; exact absurd h3 (hn d)
      · rw [if_neg hj] at h3
        exact .inr ⟨h1, by simp [h2], h3⟩
theorem lockL_some : ∀ (L : List Nat) (j : Nat) (env : Env) (d : D) (fl : Fl), env[j]? = some (some (d, fl)) → ∃ fl', (lockL L env)[j]? = some (some (d, fl')) ∧ (fl ≠ .fro → fl' ≠ .fro)
  | [], j, env, d, fl, h => ⟨fl, h, id⟩
  | i :: L, j, env, d, fl, h => by
    unfold lockL
    have : ∃ fl', (lock1 i env)[j]? = some (some (d, fl')) ∧ (fl ≠ .fro → fl' ≠ .fro) := by
      rw [lock1_get]
      by_cases hj : j = i
      · subst hj
        rw [if_pos rfl, h]
        cases fl with
        | own => exact ⟨.lock, rfl, fun _ => by simp⟩
        | fro => exact ⟨.fro, rfl, id⟩
        | lock => exact ⟨.lock, rfl, id⟩
      · rw [if_neg hj]; exact ⟨fl, h, id⟩
    obtain ⟨fl', h1, h2⟩ := this
    obtain ⟨fl2, h3, h4⟩ := lockL_some L j _ d fl' h1
    exact ⟨fl2, h3, fun n => h4 (h2 n)⟩
theorem unlockL_get : ∀ (L : List Nat) (j : Nat) (env0 env : Env) (d : D) (fl : Fl), (unlockL L env0 env)[j]? = some (some (d, fl)) → (env[j]? = some (some (d, fl)) ∧ (fl = .lock → j ∈ L → ∀ d', env0[j]? ≠ some (some (d', .own)))) ∨ (fl = .own ∧ j ∈ L ∧ env[j]? = some (some (d, .lock)) ∧ ∃ d', env0[j]? = some (some (d', .own)))
  | [], j, env0, env, d, fl, h => .inl ⟨h, fun _ z => by cases z⟩
  | i :: L, j, env0, env, d, fl, h => by
    unfold unlockL at h
    rcases unlockL_get L j _ _ d fl h with ⟨h1, h2⟩ | ⟨h1, h2, h3, h4⟩
    · rw [unlock1_get] at h1
      by_cases hj : j = i
      · subst hj
        rw [if_pos rfl] at h1
        split at h1
        · rename_i d0 d' hq hq2
          cases h1
          exact .inr ⟨rfl, by simp, hq2, _, hq⟩
        · rename_i hn
          exact .inl ⟨h1, fun e _ d' hd' => by subst e; exact hn d' d hd' h1⟩
      · rw [if_neg hj] at h1
        exact .inl ⟨h1, fun e m => h2 e (by simpa [hj] using m)⟩
    · rw [unlock1_get] at h3
      by_cases hj : j = i
      · subst hj
        rw [if_pos rfl] at h3
        split at h3
        · cases h3
        · exact .inr ⟨h1, by simp, h3, h4⟩
      · rw [if_neg hj] at h3
        exact .inr ⟨h1, by simp [h2], h3, h4⟩
theorem unlockL_some : ∀ (L : List Nat) (j : Nat) (env0 env : Env) (d : D) (fl : Fl), env[j]? = some (some (d, fl)) → ∃ fl', (unlockL L env0 env)[j]? = some (some (d, fl')) ∧ (fl ≠ .fro → fl' ≠ .fro)
  | [], j, env0, env, d, fl, h => ⟨fl, h, id⟩
  | i :: L, j, env0, env, d, fl, h => by
    unfold unlockL
    have : ∃ fl', (unlock1 i env0 env)[j]? = some (some (d, fl')) ∧ (fl ≠ .fro → fl' ≠ .fro) := by
      rw [unlock1_get]
      by_cases hj : j = i
      · subst hj
        rw [if_pos rfl, h]
        split
        · rename_i h1 h2; cases h2; exact ⟨.own, rfl, fun _ => by simp⟩
        · exact ⟨fl, rfl, id⟩
      · rw [if_neg hj]; exact ⟨fl, h, id⟩
    obtain ⟨fl', h1, h2⟩ := this
    obtain ⟨fl2, h3, h4⟩ := unlockL_some L j env0 _ d fl' h1
    exact ⟨fl2, h3, fun n => h4 (h2 n)⟩
section
variable {K : PySem.W.Frag} {A : Av} {H₀ H H' : Hp} {env env0 : Env} {ex ex0 : Nat → Option Addr} {σ σ0 : L2.St} {TB : Tbl}
theorem SR.lockL (S : SR K A H₀ H env ex σ) (L : List Nat) : SR K A H₀ H (lockL L env) ex σ :=
  S.flags (lockL_len L env) (fun i d fl h => by
    rcases lockL_get L i env d fl h with ⟨h1, _⟩ | ⟨h1, _, h3⟩
    · by_cases hf : fl = .fro
      · exact ⟨fl, h1, .inl hf⟩
      · exact ⟨fl, h1, .inr ⟨hf, rfl⟩⟩
    · exact ⟨.own, h3, .inr ⟨by simp, rfl⟩⟩) fun i a h => by
    obtain ⟨d, fl, e1, nf⟩ := S.hasv i a h
    obtain ⟨fl', h1, h2⟩ := lockL_some L i env d fl e1
    exact ⟨h, d, fl', h1, h2 nf⟩
theorem SR.unlockL (S : SR K A H₀ H env ex σ) (L : List Nat) : SR K A H₀ H (unlockL L env0 env) ex σ :=
  S.flags (unlockL_len L env0 env) (fun i d fl h => by
    rcases unlockL_get L i env0 env d fl h with ⟨h1, _⟩ | ⟨h1, _, h3, _⟩
    · by_cases hf : fl = .fro
      · exact ⟨fl, h1, .inl hf⟩
      · exact ⟨fl, h1, .inr ⟨hf, rfl⟩⟩
    · exact ⟨.lock, h3, .inr ⟨by simp, rfl⟩⟩) fun i a h => by
    obtain ⟨d, fl, e1, nf⟩ := S.hasv i a h
    obtain ⟨fl', h1, h2⟩ := unlockL_some L i env0 env d fl e1
    exact ⟨h, d, fl', h1, h2 nf⟩
/-- a whole loop: the names locked, its turns, the names unlocked -/
theorem Keep.locked {L : List Nat} (k : Keep TB (L3.lockL L env0) ex0 σ0 env ex σ H H') : Keep TB env0 ex0 σ0 (L3.unlockL L env0 env) ex σ H H' where
  k1 := fun b o e t n => k.k1 b o e t fun i d h1 h2 => by
    rcases lockL_get L i env0 d _ h2 with ⟨z, _⟩ | ⟨z, _⟩
    · exact n i d h1 z
    · cases z
  k2 := fun i b d h1 h2 => by
    rcases unlockL_get L i env0 env d _ h2 with ⟨z, _⟩ | ⟨_, _, z, d', z2⟩
    · rcases k.k2 i b d h1 z with q | ⟨j, d', q1, q2⟩
      · exact .inl q
      · rcases lockL_get L j env0 d' _ q2 with ⟨z, _⟩ | ⟨z, _⟩
        · exact .inr ⟨j, d', q1, z⟩
        · cases z
    · obtain ⟨q1, _⟩ := k.k3 i b d h1 z
      exact .inr ⟨i, d', q1, z2⟩
  k3 := fun i b d h1 h2 => by
    rcases unlockL_get L i env0 env d _ h2 with ⟨z, zn⟩ | ⟨z, _⟩
    · obtain ⟨q1, d', q2⟩ := k.k3 i b d h1 z
      rcases lockL_get L i env0 d' _ q2 with ⟨y, _⟩ | ⟨_, y1, y2⟩
      · exact ⟨q1, d', y⟩
      · exact absurd y2 (zn rfl y1 d')
    · cases z
  k4 := by rw [unlockL_len]; exact k.k4.trans (lockL_len _ _)
  k5 := fun j h => by
    have h1 : env[j]? = some none := by
      cases hq : env[j]? with
      | none =>
        have := unlockL_len L env0 env
        rw [List.getElem?_eq_none (by rw [this]; exact List.getElem?_eq_none_iff.mp hq)] at h; cases h
      | some o =>
        cases o with
        | none => rfl
        | some p =>
          obtain ⟨fl', e, _⟩ := unlockL_some L j env0 env p.1 p.2 hq
          rw [h] at e; cases e
    obtain ⟨x, y⟩ := k.k5 j h1
    refine ⟨x, ?_⟩
    cases hq : env0[j]? with
    | none =>
      have := lockL_len L env0
      rw [List.getElem?_eq_none (by rw [this]; exact List.getElem?_eq_none_iff.mp hq)] at y; cases y
    | some o =>
      cases o with
      | none => rfl
      | some p =>
        obtain ⟨fl', e, _⟩ := lockL_some L j env0 p.1 p.2 hq
        rw [y] at e; cases e
  k6 := k.k6
/-- behind some statements: a name's own object is new, or was one's own before -/
theorem Keep.own4 (k : Keep TB env0 ex0 σ0 env ex σ H H') (S : SR K A H₀ H' env ex σ) {i : Nat} {a : Addr} (h : ex i = some a) : rt H a = none ∨ ∃ j, ex0 j = some a := by
  obtain ⟨d, fl, e1, nf⟩ := S.hasv i a h
  cases fl with
  | fro => exact absurd rfl nf
  | own =>
    rcases k.k2 i a d h e1 with z | ⟨j, _, z, _⟩
    · exact .inl z
    · exact .inr ⟨j, z⟩
  | lock => exact .inr ⟨i, (k.k3 i a d h e1).1⟩
end

section
variable {X : Cx} {TB : Tbl} {W : Wn} {T : FT} {fr : Bool} {e : Expr} {c : CE} {cs : CS} {pos : Pos}
theorem Wish.more {K : PySem.W.Frag} {A : Av} {H₀ H H1 : Hp} {env env1 : Env} {ex ex1 : Nat → Option Addr} {σ σ1 : L2.St} {D : Ends} {o : O} (k : Keep TB env ex σ env1 ex1 σ1 H H1) (w : Wish K TB W fr A H₀ H env ex σ D o) : Wish K TB W fr A H₀ H1 env1 ex1 σ1 D o := by
  cases o with
  | nx env' => exact fun σ' H' ex' S' k' => w σ' H' ex' S' (k.trans k')
  | rt d => exact w
  | ex n => exact w
  | st => exact w
theorem vs_for {tg iter : Expr} {body : List Stmt} {tgc : Tg} {ci : CI} (hp : PassesOwn (model X.prog X.w) X.A X.env X.xe) (hc : X.calm = true) (hi : PI X tg iter (tI X.K W T ci)) (hg : PG X tg (gT X.K tgc)) (hb : PSs X body (tS X.K TB W T fr cs)) (hs : ∀ x, foldedSetIterable iter X.env x = pure x) :
    PS X (.For tg iter body [] pos) (tS X.K TB W T fr (.forS tgc ci cs)) :=
  PS.imp (ps_for hp hc hi hg hb hs) fun pins s σ H D I ⟨A, H₀, env, ex, S, tk, p⟩ => by
    refine ⟨A, H₀, env, ex, S, ?_⟩
    have p' : Wish X.K TB W fr A H₀ H env ex σ D ((its T ci env).toO fun ds => (forL (fun d e => (bindT tgc d e).toO fun e' => exec T fr cs e') ds (lockL (lkI0 ci) (freeze (lkI ci) env))).then fun e => .nx (unlockL (lkI0 ci) (freeze (lkI ci) env) e)) := p
    refine (Post.of_toO S.same p' (fun n h => h) (fun h => h)).imp (Same.refl _) fun ds _ q J H1 e1 wk => ?_
    have S1 : SR X.K A H₀ H1 (lockL (lkI0 ci) (freeze (lkI ci) env)) (exF ex (lkI ci)) σ := ((S.ext e1).freeze _).lockL _
    -- the rest's outcome, unlocked
    let fin : O → O := fun o => o.then fun e => .nx (unlockL (lkI0 ci) (freeze (lkI ci) env) e)
    let turn : PyData → Env → O := fun d e => (bindT tgc d e).toO fun e' => exec T fr cs e'
    have tk1 := tk.same S e1
    let Iv : Nat → L2.St → Hp → Prop := fun i σ' H' => i ≤ ds.length ∧ ∃ env' ex', SR X.K A H₀ H' env' ex' σ' ∧ Keep TB (lockL (lkI0 ci) (freeze (lkI ci) env)) (exF ex (lkI ci)) σ env' ex' σ' H1 H' ∧
      Wish X.K TB W fr A H₀ H env ex σ D (fin (forL turn (ds.drop i) env'))
    refine ⟨fun i m σ' H' => m = ds.length - i ∧ Iv i σ' H', ⟨ds.length, by simp, Nat.zero_le _, _, _, S1, .refl (Same.refl _), q⟩, ?_⟩
    rintro i m σ' H' ⟨rfl, hi', env', ex', S', k', q'⟩
    -- what the iterator leans on stays
    have stay : ∀ b o, rt H1 b = some o → (¬ ExM ex A (lkI0 ci) b ∨ tupo o = true) → H' b = some o := fun b o hr z => k'.k1 b o (rt_some hr).1 (rt_some hr).2 fun j d h1 h2 => by
      have hb := (rt_some hr).1
      obtain ⟨n1, h1'⟩ := exF_some h1
      rcases z with z | z
      · refine z (.inr ⟨j, h1', fun m => ?_⟩)
        rcases lockL_get _ _ _ _ _ h2 with ⟨_, y⟩ | ⟨y, _⟩
        · exact y rfl m
        · cases y
      · obtain ⟨v, _, _, o'⟩ := S1.at_ j d _ h2
        rcases o' with o' | ⟨a', _, ea, oa⟩
        · cases o'
        · rw [h1] at ea; cases ea
          rw [oa.ntup hb] at z; cases z
    by_cases hlt : i < ds.length
    · refine .inr ⟨wk.go H' stay i hlt, Iv (i + 1), fun σ2 H2 hI => ⟨ds.length - (i + 1), by omega, rfl, hI⟩, fun x H2 hy => ?_⟩
      obtain ⟨e2, d, hd, rd⟩ := wk.yld H' stay i x H2 hlt hy
      have hdrop : ds.drop i = d :: ds.drop (i + 1) := by
        rw [List.drop_eq_getElem_cons hlt]
        congr 1
        rw [List.getElem?_eq_getElem hlt] at hd
        exact Option.some.inj hd
      rw [hdrop] at q'
      have q2 : Wish X.K TB W fr A H₀ H env ex σ D (fin (match turn d env' with | .nx env2 => forL turn (ds.drop (i + 1)) env2 | o => o)) := q'
      have S2 := S'.ext e2
      cases hbd : bindT tgc d env' with
      | exc n => exact absurd hbd bindT_ne
      | stuck =>
        have ht : turn d env' = .st := by show (bindT tgc d env').toO _ = _; rw [hbd]; rfl
        rw [ht] at q2
        exact (show False from q2).elim
      | ok e3 =>
        have ht : turn d env' = exec T fr cs e3 := by show (bindT tgc d env').toO _ = _; rw [hbd]; rfl
        rw [ht] at q2
        refine bind_t hbd S2 (rd _ fun a z => ?_) fun σ3 S3 hw => ⟨A, H₀, e3, _, S3, (tk1.keep S1 (k'.trans (Keep.bindT hbd hw e2))), ?_⟩
        · rcases z with z | ⟨j, z, _⟩
          · exact .inl (.inl z)
          · rcases k'.own4 S' z with y | ⟨j', y⟩
            · exact .inr y
            · obtain ⟨n1, y1⟩ := exF_some y
              exact .inl (.inr ⟨j', y1, n1⟩)
        · show Wish X.K TB W fr A H₀ H2 e3 _ σ3 { D with nx := Iv (i + 1), ct := Iv (i + 1), bk := D.nx } (exec T fr cs e3)
          cases hx : exec T fr cs e3 with
          | nx env4 =>
            rw [hx] at q2
            exact fun σ4 H4 ex4 S4 k4 => ⟨hlt, env4, ex4, S4, (k'.trans ((Keep.bindT hbd hw e2))).trans k4, q2⟩
          | rt d => rw [hx] at q2; exact q2
          | ex n => rw [hx] at q2; exact q2
          | st => rw [hx] at q2; exact q2
    · have e : i = ds.length := by omega
      subst e
      refine .inl ⟨wk.stop H' stay, ?_⟩
      rw [List.drop_length] at q'
      have q2 : Wish X.K TB W fr A H₀ H env ex σ D (.nx (unlockL (lkI0 ci) (freeze (lkI ci) env) env')) := q'
      exact q2 σ' H' ex' (S'.unlockL _) ((Keep.freeze (lkI ci) e1).trans k'.locked)
theorem vs_while {body : List Stmt} (hp : PassesOwn (model X.prog X.w) X.A X.env X.xe) (hc : PT X e (tT X.K W T c)) (hb : PSs X body (tS X.K TB W T fr cs)) : PS X (.While e body [] pos) (tS X.K TB W T fr (.whileS c cs)) :=
  PS.imp (ps_while hp hc hb) fun pins s σ H D I ⟨A, H₀, env, ex, S, tk, p⟩ => by
    have p' : Wish X.K TB W fr A H₀ H env ex σ D (whL (fun e => ev T c e) (fun e => exec T fr cs e) wfuel env) := p
    refine ⟨fun m σ' H' => ∃ env' ex', SR X.K A H₀ H' env' ex' σ' ∧ Keep TB env ex σ env' ex' σ' H H' ∧ Wish X.K TB W fr A H₀ H env ex σ D (whL (fun e => ev T c e) (fun e => exec T fr cs e) m env'), ⟨wfuel, env, ex, S, .refl (Same.refl _), p'⟩, ?_⟩
    rintro m σ' H' ⟨env', ex', S', k', q⟩
    cases m with
    | zero => exact (show False from q).elim
    | succ m =>
      have tk' := tk.keep S k'
      refine ⟨A, H₀, env', ex', S', ?_⟩
      simp only [whL] at q
      cases hv : ev T c env' with
      | stuck => rw [hv] at q; exact (show False from q).elim
      | exc n => rw [hv] at q; exact fun H2 e2 => (show ∀ H', Same H₀ H' → W n H' from q) H2 (S'.same.trans e2)
      | ok d =>
        rw [hv] at q
        cases d <;> first | exact (show False from q).elim | skip
        rename_i b
        refine ⟨b, rfl, fun H2 e2 => ?_⟩
        cases b with
        | false => exact iteF (q σ' H2 ex' (S'.ext e2) (k'.trans (.refl e2)))
        | true =>
          refine iteT ⟨fun σ3 H3 => ∃ env3 ex3, SR X.K A H₀ H3 env3 ex3 σ3 ∧ Keep TB env ex σ env3 ex3 σ3 H H3 ∧ Wish X.K TB W fr A H₀ H env ex σ D (whL (fun e => ev T c e) (fun e => exec T fr cs e) m env3), fun σ3 H3 h => ⟨m, Nat.lt_succ_self _, h⟩, A, H₀, env', ex', S'.ext e2, tk'.same S' e2, ?_⟩
          show Wish X.K TB W fr A H₀ H2 env' ex' σ' _ (exec T fr cs env')
          have q2 : Wish X.K TB W fr A H₀ H env ex σ D (match exec T fr cs env' with | .nx env2 => whL (fun e => ev T c e) (fun e => exec T fr cs e) m env2 | o => o) := q
          cases hx : exec T fr cs env' with
          | nx env4 => rw [hx] at q2; exact fun σ4 H4 ex4 S4 k4 => ⟨env4, ex4, S4, (k'.trans (.refl e2)).trans k4, q2⟩
          | rt d => rw [hx] at q2; exact q2
          | ex n => rw [hx] at q2; exact q2
          | st => rw [hx] at q2; exact q2
/-- a class of errors without __init__, of the text's own -/
structure ExcOk (X : Cx) (x : Str) (n : String) (C : Addr) : Prop where
  name : x = Str.ofString n
  gC : X.mg x = some (.ref C)
  xC : PySem.W.excIn X.K C [.type "ValueError", .type "Exception", .type "BaseException", .type "object"] "ValueError.__new__" = true
  kC : PySem.W.keepIn X.K (.ref C) = true
  bC : PySem.W.subIn X.K (.ref C) (.type "BaseException") = some true
  tC : PySem.W.typeIn X.K (.ref C) = some (.type "type")
theorem vs_raise {x m : Str} {n : String} {C : Addr} {j : Nat} {p p2 p3 : Pos} (E : ExcOk X x n C) (hc : X.calm = true) (tk : Takes X (wx X.mg W)) (hg : Gl X x) (hdb : (x == ("__debug__" : Str)) = false) :
    PS X (.Raise (some (.Call (.Name x p) [.Constant (.str m) j p2] [] p3)) none pos) (tS X.K TB W T fr (.raise n)) :=
  PS.imp (ps_raise hc tk (pmk_own PySem.F.excBase_ValueError E.xC E.gC E.kC (raises_own E.bC E.tC) hg hdb)) fun pins s σ H D I ⟨A, H₀, env, ex, S, tk, p⟩ => by
    have p' : Wish X.K TB W fr A H₀ H env ex σ D (.ex n) := p
    exact ⟨n, C, by rw [← E.name]; exact E.gC, rfl, rfl, p' H S.same⟩
end
end L3

set_option Elab.async false
set_option linter.all false
set_option maxRecDepth 100000
set_option maxHeartbeats 1000000
/-! a new list of new lists, filled item by item in one loop -/
namespace L3
open PySem PySem.Spec PyProof.Rows L2

/-! ### the heap without the hidden lists -/
def rm (bs : List Addr) (H : Hp) : Hp := fun b => if b ∈ bs then none else H b
theorem rm_in {bs : List Addr} {H : Hp} {b : Addr} (h : b ∈ bs) : rm bs H b = none := by unfold rm; rw [if_pos h]
theorem rm_out {bs : List Addr} {H : Hp} {b : Addr} (h : b ∉ bs) : rm bs H b = H b := by unfold rm; rw [if_neg h]
theorem rm_some {bs : List Addr} {H : Hp} {b : Addr} {o : HO} (h : rm bs H b = some o) : b ∉ bs ∧ H b = some o := by
  by_cases hb : b ∈ bs
  · rw [rm_in hb] at h; cases h
  · rw [rm_out hb] at h; exact ⟨hb, h⟩
theorem rm_upd {bs : List Addr} {H : Hp} {b : Addr} {o : HO} (h : b ∈ bs) : rm bs (upd H b o) = rm bs H := by
  funext c
  by_cases hc : c ∈ bs
  · rw [rm_in hc, rm_in hc]
  · rw [rm_out hc, rm_out hc, upd_ne (fun q => hc (by rw [q]; exact h))]
theorem rm_same {bs : List Addr} {H H' : Hp} (e : Same H H') : Same (rm bs H) (rm bs H') := fun b o h => by
  obtain ⟨n, h⟩ := rm_some h
  rw [rm_out n]; exact e b o h
section
variable {K : PySem.W.Frag} {A A' : Av} {H₀ H H' H1 : Hp} {env env' : Env} {ex ex' : Nat → Option Addr} {σ σ' : L2.St} {i : Nat} {a : Addr} {bs : List Addr} {xs : List (List D)} {TB : Tbl}
theorem rt_rm {b : Addr} (h : rt H b = none) : rt (rm bs H) b = none := by
  cases q : rt (rm bs H) b with
  | none => rfl
  | some o =>
    obtain ⟨q1, q2⟩ := rt_some q
    rw [rt_of (rm_some q1).2 q2] at h; cases h
theorem TabK.nil {H H' : Hp} : TabK [] H H' := fun p hp => by cases hp
theorem Keep.rm (k : Keep TB env ex σ env' ex' σ' H H') : Keep [] env ex σ env' ex' σ' (rm bs H) (rm bs H') where
  k1 := fun b o h t n => by
    obtain ⟨nb, h⟩ := rm_some h
    rw [rm_out nb]; exact k.k1 b o h t n
  k2 := fun j b d h1 h2 => (k.k2 j b d h1 h2).imp rt_rm id
  k3 := k.k3
  k4 := k.k4
  k5 := k.k5
  k6 := .nil
theorem Keep.own5 (k : Keep TB env ex σ env' ex' σ' H H1) (S : SR K A H₀ H' env' ex' σ') {i : Nat} {a : Addr} (h : ex' i = some a) : rt H a = none ∨ ∃ j, ex j = some a := by
  obtain ⟨d, fl, e1, nf⟩ := S.hasv i a h
  cases fl with
  | fro => exact absurd rfl nf
  | own =>
    rcases k.k2 i a d h e1 with z | ⟨j, _, z, _⟩
    · exact .inl z
    · exact .inr ⟨j, z⟩
  | lock => exact .inr ⟨i, (k.k3 i a d h e1).1⟩
/-- with the hidden lists avoided -/
def dA (A : Av) (a : Addr) (bs : List Addr) : Av := fun x => A x ∨ x = a ∨ x ∈ bs
structure Dp (K : PySem.W.Frag) (A : Av) (H₀ H : Hp) (env : Env) (ex : Nat → Option Addr) (σ : L2.St) (i : Nat) (a : Addr) (bs : List Addr) (xs : List (List D)) : Prop where
  hn : env[i]? = some none
  hs : σ[i]? = some (some (.ref a))
  ha : H a = some (.lst (bs.map .ref))
  nd : bs.Nodup
  na : a ∉ bs
  old : ∀ x, x = a ∨ x ∈ bs → H₀ x = none
  nA : ∀ x, x = a ∨ x ∈ bs → ¬ A x
  len : bs.length = xs.length
  its : ∀ (n : Nat) (b : Addr) (x : List D), bs[n]? = some b → xs[n]? = some x → ∃ vs, H b = some (.lst vs) ∧ Reps K H (ExM ex (dA A a bs) []) x vs
theorem Dp.keep (P : Dp K A H₀ H env ex σ i a bs xs) (S : SR K (dA A a bs) H₀ H env ex σ) (S' : SR K (dA A a bs) H₀ H' env' ex' σ') (k : Keep TB env ex σ env' ex' σ' H H') (hn : env'[i]? = some none) : Dp K A H₀ H' env' ex' σ' i a bs xs := by
  have k1 : ∀ c o, rt H c = some o → (¬ ExM ex (dA A a bs) [] c ∨ tupo o = true ∨ dA A a bs c) → H' c = some o := fun c o er z => k.k1 c o (rt_some er).1 (rt_some er).2 fun j d h1 h2 => by
    have e := (rt_some er).1
    rcases z with z | z | z
    · exact z (.inr ⟨j, h1, by simp⟩)
    · obtain ⟨v, _, _, o'⟩ := S.at_ j d _ h2
      rcases o' with o' | ⟨a', _, ea, oa⟩
      · cases o'
      · rw [h1] at ea; cases ea
        rw [oa.ntup e] at z; cases z
    · exact S.new j c h1 z
  refine ⟨hn, (k.k5 i hn).1.trans P.hs, k1 a _ (rt_of P.ha rfl) (.inr (.inr (.inr (.inl rfl)))), P.nd, P.na, P.old, P.nA, P.len, fun n b x h1 h2 => ?_⟩
  obtain ⟨vs, e, r⟩ := P.its n b x h1 h2
  refine ⟨vs, k1 b _ (rt_of e rfl) (.inr (.inr (.inr (.inr (List.mem_of_getElem? h1))))), Reps.stay (fun c o e z => k1 c o e (z.imp id .inl)) (fun c z => ?_) _ _ (Reps.rt _ _ r)⟩
  rcases z with z | ⟨j, z, _⟩
  · exact .inl (.inl z)
  · rcases k.own5 S' z with y | ⟨j', y⟩
    · exact .inr y
    · exact .inl (.inr ⟨j', y, by simp⟩)
theorem hid_iff {env : Env} {i : Nat} : hid env i = true ↔ env[i]? = some none := by
  unfold hid
  cases h : env[i]? with
  | none => simp
  | some o => cases o <;> simp
theorem env1_none {c : CE} {d : D} {env : Env} {i : Nat} (h : env[i]? = some none) : (env1 c d env)[i]? = some none := by
  unfold env1
  split
  · exact h
  · rw [freeze_get]
    split
    · rw [h]; rfl
    · exact h
theorem SR.updA (S : SR K A H₀ H env ex σ) {b : Addr} {vs us : List V} (hb : A b) (h0 : H₀ b = none) (hH : H b = some (.lst vs)) : SR K A H₀ (upd H b (.lst us)) env ex σ := by
  have ne : ∀ c o, H c = some o → c ≠ b → upd H b (.lst us) c = some o := fun c o e n => by rw [upd_ne n]; exact e
  have st : ∀ L c o, H c = some o → (¬ ExM ex A L c ∨ tupo o = true) → upd H b (.lst us) c = some o := fun L c o e z => ne c o e fun q => by
    subst q
    rcases z with z | z
    · exact z (.inl hb)
    · rw [hH] at e; cases e; cases z
  refine ⟨S.len, S.inj, fun c z q => ?_, S.new, S.old, fun c o e => ne c o (S.same c o e) fun q => (by rw [q, h0] at e; cases e), S.hasv, fun j d fl h => ?_⟩
  · by_cases e : c = b
    · rw [e, upd_same] at q; cases q
    · rw [upd_ne e] at q; exact S.dom c z q
  · obtain ⟨v, e1, r, o⟩ := S.at_ j d fl h
    refine ⟨v, e1, r.stay (st []) (fun _ z => .inl z) (fun c o e z => st [j] c o e (.inl z)) (fun _ z => .inl z), o.imp id fun ⟨c, ev, ec, oc⟩ => ⟨c, ev, ec, ?_⟩⟩
    have hcb : c ≠ b := fun q => S.new j c ec (q ▸ hb)
    cases d <;> first | exact oc.elim | (obtain ⟨ws, oc⟩ := oc; exact ⟨ws, ne _ _ oc hcb⟩)
theorem Dp.app (P : Dp K A H₀ H env ex σ i a bs xs) {k : Nat} {b : Addr} {x : List D} {vs : List V} {d : D} {v : V} (hb : bs[k]? = some b) (hx : xs[k]? = some x) (hH : H b = some (.lst vs)) (hr : Reps K H (ExM ex (dA A a bs) []) x vs) (r : Rep K H (ExM ex (dA A a bs) []) d v) :
    Dp K A H₀ (upd H b (.lst (vs ++ [v]))) env ex σ i a bs (xs.set k (x ++ [d])) := by
  have hm := List.mem_of_getElem? hb
  have ne : ∀ c o, H c = some o → c ≠ b → upd H b (.lst (vs ++ [v])) c = some o := fun c o e n => by rw [upd_ne n]; exact e
  have st : ∀ c o, H c = some o → (¬ ExM ex (dA A a bs) [] c ∨ tupo o = true) → upd H b (.lst (vs ++ [v])) c = some o := fun c o e z => ne c o e fun q => by
    subst q
    rcases z with z | z
    · exact z (.inl (.inr (.inr hm)))
    · rw [hH] at e; cases e; cases z
  refine ⟨P.hn, P.hs, ne _ _ P.ha (fun q => P.na (q ▸ hm)), P.nd, P.na, P.old, P.nA, by simp [P.len], fun n c y h1 h2 => ?_⟩
  by_cases hn : n = k
  · subst hn
    rw [hb] at h1; cases h1
    have hl : n < xs.length := (List.getElem?_eq_some_iff.mp hx).1
    rw [List.getElem?_set_self hl] at h2; cases h2
    exact ⟨_, upd_same, Reps.append (Reps.stay st (fun _ z => .inl z) _ _ hr) (.cons (Rep.stay st (fun _ z => .inl z) _ _ r) .nil)⟩
  · rw [List.getElem?_set_ne (Ne.symm hn)] at h2
    obtain ⟨ws, e, q⟩ := P.its n c y h1 h2
    have hc : c ≠ b := fun q => by
      subst q
      exact hn ((List.getElem?_inj (List.getElem?_eq_some_iff.mp h1).1 P.nd).mp (h1.trans hb.symm))
    exact ⟨ws, ne _ _ e hc, Reps.stay st (fun _ z => .inl z) _ _ q⟩
theorem SR.less (S : SR K A' H₀ H env ex σ) (h : ∀ x, A x → A' x) : SR K A H₀ H env ex σ where
  len := S.len
  inj := S.inj
  dom := fun a z => S.dom a (h a z)
  new := fun i a e z => S.new i a e (h a z)
  old := S.old
  same := S.same
  hasv := S.hasv
  at_ := fun j d fl e => by
    obtain ⟨v, e1, r, o⟩ := S.at_ j d fl e
    exact ⟨v, e1, r.anti (fun x z => z.imp (h x) id) (fun x z => z.imp (h x) id), o⟩
theorem SR.setN (S : SR K A H₀ H env ex σ) (h : env[i]? = some none) (v : Option V) : SR K A H₀ H env ex (σ.set i v) where
  len := by rw [List.length_set]; exact S.len
  inj := S.inj
  dom := S.dom
  new := S.new
  old := S.old
  same := S.same
  hasv := S.hasv
  at_ := fun j d fl e => by
    have hj : i ≠ j := fun q => by subst q; rw [h] at e; cases e
    obtain ⟨v', e1, r, o⟩ := S.at_ j d fl e
    exact ⟨v', by rw [List.getElem?_set_ne hj]; exact e1, r, o⟩
end

theorem TOk.mono {TB : Tbl} {A A' : Av} {H₀ H : Hp} (t : TOk TB A' H₀ H) (h : ∀ x, A x → A' x) : TOk TB A H₀ H := t.imp id fun ⟨a, b, c⟩ => ⟨a, b, fun x z => c x (h x z)⟩
theorem TOk.deep {K : PySem.W.Frag} {TB : Tbl} {A : Av} {H₀ H2 H3 : Hp} {env0 env' env3 : Env} {ex0 ex' ex3 : Nat → Option Addr} {τ σ' σ3 : L2.St} {i : Nat} {a : Addr} {bs : List Addr} {xs : List (List D)} (t : TOk TB A H₀ H2) (S : SR K (dA A a bs) H₀ H2 env0 ex0 τ) (P : Dp K A H₀ H3 env3 ex3 σ3 i a bs xs)
    (k : Keep [] env0 ex0 τ env' ex' σ' (rm bs H2) (rm bs H3)) (tb : TabK TB H2 H3) : TOk TB (dA A a bs) H₀ H3 := by
  have hb : ∀ x, x ∈ bs → ∀ ps, H3 x ≠ some (.tbl ps) := fun x hx ps e => by
    obtain ⟨n, hn⟩ := List.mem_iff_getElem?.mp hx
    have hlt : n < xs.length := by rw [← P.len]; exact (List.getElem?_eq_some_iff.mp hn).1
    obtain ⟨vs, e1, _⟩ := P.its n x _ hn (List.getElem?_eq_getElem hlt)
    rw [e1] at e; cases e
  rcases t with t | ⟨t1, t2, t3⟩
  · exact .inl t
  · refine .inr ⟨fun p hp => tb p hp (t1 p hp), t2, fun x z ps e => ?_⟩
    by_cases hx : x ∈ bs
    · exact hb x hx ps e
    · rcases z with z | z | z
      · cases q : H2 x with
        | none => exact S.dom x (.inl z) q
        | some o =>
          have hn : ∀ ps, o ≠ .tbl ps := fun ps e => t3 x z ps (by rw [q, e])
          have := (rm_some (k.k1 x o (by rw [rm_out hx]; exact q) (ntb_of hn) fun j d h1 _ => S.new j x h1 (.inl z))).2
          rw [this] at e
          exact hn ps (Option.some.inj e)
      · rw [z, P.ha] at e; cases e
      · exact hx z
/-! ### the statements of the loop's body -/
def WishD (K : PySem.W.Frag) (TB : Tbl) (W : Wn) (A : Av) (H₀ H : Hp) (env : Env) (ex : Nat → Option Addr) (σ : L2.St) (i : Nat) (a : Addr) (bs : List Addr) (D : Ends) (o : OD) : Prop :=
  match o with
  | .nx env' xs' => ∀ σ' H' ex', SR K (dA A a bs) H₀ H' env' ex' σ' → Dp K A H₀ H' env' ex' σ' i a bs xs' → Keep [] env ex σ env' ex' σ' (rm bs H) (rm bs H') → TabK TB H H' → D.nx σ' H'
  | .ex n => ∀ H', Same H₀ H' → W n H'
  | .st => False
def tSD (K : PySem.W.Frag) (TB : Tbl) (W : Wn) (T : FT) (i : Nat) (cs : CS) : TS := fun D σ H => ∃ A H₀ env ex a bs xs, SR K (dA A a bs) H₀ H env ex σ ∧ Dp K A H₀ H env ex σ i a bs xs ∧ TOk TB (dA A a bs) H₀ H ∧ WishD K TB W A H₀ H env ex σ i a bs D (execD T i cs env xs)
theorem Post.of_toOD {α : Type} {W : Wn} {H₀ H : Hp} {r : R α} {f : α → OD} {P : OD → Prop} (s0 : Same H₀ H) (h : P (r.toOD f)) (hx : ∀ n, P (.ex n) → ∀ H', Same H₀ H' → W n H') (hs : ¬ P .st) : Post W H r fun a => P (f a) := by
  cases r with
  | ok a => exact h
  | exc n => exact fun H' e => hx n h H' (s0.trans e)
  | stuck => exact hs h
theorem WishD.more {K : PySem.W.Frag} {TB : Tbl} {W : Wn} {A : Av} {H₀ H H1 : Hp} {env env1 : Env} {ex ex1 : Nat → Option Addr} {σ σ1 : L2.St} {i : Nat} {a : Addr} {bs : List Addr} {D : Ends} {o : OD} (k : Keep [] env ex σ env1 ex1 σ1 (rm bs H) (rm bs H1)) (tb : TabK TB H H1) (w : WishD K TB W A H₀ H env ex σ i a bs D o) : WishD K TB W A H₀ H1 env1 ex1 σ1 i a bs D o := by
  cases o with
  | nx env' xs' => exact fun σ' H' ex' S' P' k' tb' => w σ' H' ex' S' P' (k.trans k') (tb.trans tb')
  | ex n => exact w
  | st => exact w
section
variable {X : Cx} {TB : Tbl} {W : Wn} {T : FT} {fr : Bool} {e : Expr} {st : Stmt} {sts : List Stmt} {c ck : CE} {cs cs' : CS} {pos : Pos} {i : Nat}
theorem vd_leaf (he : ∀ env xs, execD T i cs env xs = leafD i (exec T fr cs env) xs) (h : PS X st (tS X.K TB W T fr cs)) : PS X st (tSD X.K TB W T i cs) :=
  PS.imp h fun pins s σ H D I ⟨A, H₀, env, ex, a, bs, xs, S, P, tk, p⟩ => by
    refine ⟨_, H₀, env, ex, S, tk, ?_⟩
    rw [he] at p
    cases hx : exec T fr cs env with
    | nx env' =>
      rw [hx] at p
      unfold leafD at p
      intro σ' H' ex' S' k
      dsimp only at p
      split at p
      · rename_i hh
        exact p σ' H' ex' S' (P.keep S S' k (hid_iff.mp hh)) k.rm k.k6
      · exact p.elim
    | rt d => rw [hx] at p; exact p.elim
    | ex n => rw [hx] at p; exact p
    | st => rw [hx] at p; exact p.elim
theorem vd_nil : PSs X [] (tSD X.K TB W T i .skip) := ⟨fun pins s σ H D I ⟨A, H₀, env, ex, a, bs, xs, S, P, tk, p⟩ => pss_nil.run pins s σ H D I (p σ H ex S P (.refl (Same.refl _)) (.same (Same.refl _)))⟩
theorem vd_cons (h1 : PS X st (tSD X.K TB W T i cs)) (h2 : PSs X sts (tSD X.K TB W T i cs')) : PSs X (st :: sts) (tSD X.K TB W T i (.seq cs cs')) :=
  PSs.imp (pss_cons h1 h2) fun pins s σ H D I ⟨A, H₀, env, ex, a, bs, xs, S, P, tk, p⟩ => by
    refine ⟨A, H₀, env, ex, a, bs, xs, S, P, tk, ?_⟩
    simp only [execD] at p
    cases hx : execD T i cs env xs with
    | nx env' xs' =>
      rw [hx] at p
      intro σ' H' ex' S' P' k tb
      exact ⟨A, H₀, env', ex', a, bs, xs', S', P', (tk.mono fun x z => .inl z).deep S P' k tb, WishD.more k tb p⟩
    | ex n => rw [hx] at p; exact p
    | st => rw [hx] at p; exact p
theorem vd_if {b c' : List Stmt} {ca cb : CS} (hc : PT X e (tT X.K W T c)) (ha : PSs X b (tSD X.K TB W T i ca)) (hb : PSs X c' (tSD X.K TB W T i cb)) : PS X (.If e b c' pos) (tSD X.K TB W T i (.ifS c ca cb)) :=
  PS.imp (ps_if hc ha hb) fun pins s σ H D I ⟨A, H₀, env, ex, a, bs, xs, S, P, tk, p⟩ => by
    refine ⟨_, H₀, env, ex, S, ?_⟩
    simp only [execD] at p
    refine (Post.of_toOD (P := WishD X.K TB W A H₀ H env ex σ i a bs D) S.same p (fun n h => h) (fun h => h)).imp (Same.refl _) fun d hd q => ?_
    clear hd
    cases d <;> first | exact (show False from q).elim | skip
    rename_i b
    refine ⟨b, rfl, fun H1 e1 => ?_⟩
    have S1 := S.ext e1
    have P1 := P.keep S S1 (Keep.refl (TB := []) e1) P.hn
    have k1 : Keep [] env ex σ env ex σ (rm bs H) (rm bs H1) := .refl (rm_same e1)
    have tk1 := tk.same S e1
    cases b with
    | true => exact iteT ⟨A, H₀, env, ex, a, bs, xs, S1, P1, tk1, WishD.more k1 (.same e1) q⟩
    | false => exact iteF ⟨A, H₀, env, ex, a, bs, xs, S1, P1, tk1, WishD.more k1 (.same e1) q⟩
theorem atI_pos {α : Type} {xs : List α} {z : Int} (h0 : 0 ≤ z) (h1 : z < xs.length) : L2.atI xs z = xs[z.toNat]? := by
  unfold L2.atI L2.ixN
  rw [if_pos h0, if_pos h1]; rfl
theorem vd_app {x : Str} {ek : Expr} {p0 p1 p2 p3 : Pos} (hN : X.N[i]? = some x) (hv : Vis X.env.scope x) (hd : (x == ("__debug__" : Str)) = false) (hcd : (x == ("__classdict__" : Str)) = false) (hs : PlainIx ek) (hline : (p2.endLine == p3.line) = true) (hn : notStar e = true) (hk : PE X ek (tE X.K W T ck)) (he : PE X e (tE X.K W T c)) :
    PS X (.Expr (.Call (.Attribute (.Subscript (.Name x p1) ek p0) "append" p2) [e] [] p3) pos) (tSD X.K TB W T i (.appI i ck c)) :=
  PS.imp (ps_expr (pe_bm PySem.F.plainAttrs_list PySem.F.slot_list_append PySem.F.type_list_append mt_append (pe_ix ix_list (pe_var hN hv hd hcd) hk hs) (pa_cons he pa_nil (star_cons hn)) rfl (few1 hn) hline (star_cons hn) rfl)) fun pins s σ H D I ⟨A, H₀, env, ex, a, bs, xs, S, P, tk, p⟩ => by
    simp only [execD, if_true] at p
    refine ⟨.ref a, P.hs, _, H₀, env, ex, S, ?_⟩
    refine (Post.of_toOD (P := WishD X.K TB W A H₀ H env ex σ i a bs D) S.same p (fun n h => h) (fun h => h)).imp (Same.refl _) fun kd hkd q kv H1 e1 r1 nwk => ?_
    clear hkd nwk
    cases kd <;> first | exact (show False from q).elim | skip
    rename_i z
    cases r1
    dsimp only at q
    split at q
    · rename_i hz
      have S1 := S.ext e1
      have P1 := P.keep S S1 (Keep.refl (TB := []) e1) P.hn
      have hzb : z < bs.length := by rw [P.len]; exact hz.2
      have hlt : z.toNat < bs.length := by omega
      have hlx : z.toNat < xs.length := by rw [← P.len]; exact hlt
      obtain ⟨b, hb⟩ : ∃ b, bs[z.toNat]? = some b := ⟨_, List.getElem?_eq_getElem hlt⟩
      obtain ⟨x, hx⟩ : ∃ x, xs[z.toNat]? = some x := ⟨_, List.getElem?_eq_getElem hlx⟩
      have hgx : xs.getD z.toNat [] = x := by rw [List.getD_eq_getElem?_getD, hx]; rfl
      obtain ⟨vs, hvs, hr⟩ := P1.its _ b x hb hx
      refine ⟨a, bs.map .ref, z, .ref b, rfl, rfl, SqL.of P1.ha, ?_, ?_⟩
      · rw [atI_pos hz.1 (by rw [List.length_map]; exact hzb), List.getElem?_map, hb]; rfl
      · refine ⟨.inl ⟨rfl, vs, SqL.of hvs⟩, _, H₀, env, ex, S1, ?_⟩
        refine (Post.of_toOD (P := WishD X.K TB W A H₀ H env ex σ i a bs D) S1.same q (fun n h => h) (fun h => h)).imp (Same.refl _) fun d _ q2 v H2 e2 r2 n2 => ?_
        split at q2
        · rename_i hl
          have S2 : SR X.K (dA A a bs) H₀ H2 (L3.env1 c d env) (ex1 c d ex) σ := (S1.ext e2).env1
          have P2 := P1.keep S1 S2 (Keep.env1 (TB := []) e2) (env1_none P.hn)
          obtain ⟨vs2, hvs2, hr2⟩ := P2.its _ b x hb hx
          have hvv : vs = vs2 := by
            rw [e2 _ _ hvs] at hvs2; cases hvs2; rfl
          subst hvv
          rw [hgx] at q2 hl
          have hmem := List.mem_of_getElem? hb
          refine ⟨b, vs, v, rfl, rfl, hvs2, by rw [← hr.length, ← lim_eq]; exact hl, q2 σ _ _ (S2.updA (.inr (.inr hmem)) (P.old b (.inr hmem)) hvs2) (P2.app hb hx hvs2 hr2 (rep1 r2)) ?_ ((TabK.same (e1.trans e2)).trans (.updL hvs2))⟩
          rw [rm_upd hmem]
          exact Keep.env1 (rm_same (e1.trans e2))
        · exact (show False from q2).elim
    · exact (show False from q).elim

/-! ### the new lists -/
def isNilL : Expr → Bool
  | .List [] _ => true
  | _ => false
/-- n new empty lists -/
def tNews (n : Nat) : TA := fun σ H Q => ∀ (bs : List Addr) (H' : Hp), Same H H' → bs.length = n → bs.Nodup → (∀ b ∈ bs, H b = none ∧ H' b = some (.lst [])) → Q (bs.map .ref) H'
theorem PA.imp {es : List Expr} {t t' : TA} (h : PA X es t) (hi : ∀ pins s σ H Q, Inv X pins σ H s → t' σ H Q → t σ H Q) : PA X es t' :=
  ⟨fun pos pins s σ H Q I q => h.run pos pins s σ H Q I (hi pins s σ H Q I q)⟩
theorem pa_news : ∀ {es : List Expr}, es.all isNilL = true → PA X es (tNews es.length)
  | [], _ => PA.imp pa_nil fun pins s σ H Q I q => q [] H (Same.refl _) rfl .nil (by simp)
  | e :: es, h => by
    simp only [List.all_cons, Bool.and_eq_true] at h
    obtain ⟨h1, h2⟩ := h
    cases e <;> first | (cases h1; done) | skip
    rename_i l p
    cases l with
    | cons _ _ => cases h1
    | nil =>
      refine PA.imp (pa_cons (pe_lst pa_nil) (pa_news h2) rfl) fun pins s σ H Q I q => ⟨Nat.zero_le _, fun p hp bs H' e1 hl hn hb => q (p :: bs) H' ((same_upd hp).trans e1) (by simp [hl]) ?_ ?_⟩
      · refine List.nodup_cons.mpr ⟨fun hm => ?_, hn⟩
        have := (hb p hm).1
        rw [upd_same] at this; cases this
      · intro b hm
        rcases List.mem_cons.mp hm with rfl | hm
        · exact ⟨hp, e1 _ _ upd_same⟩
        · obtain ⟨y1, y2⟩ := hb b hm
          refine ⟨?_, y2⟩
          by_cases hbp : b = p
          · rw [hbp]; exact hp
          · rw [upd_ne hbp] at y1; exact y1
/-- the value: a new list of new empty lists, as many as the evaluator tells -/
def tNew (K : PySem.W.Frag) (W : Wn) (T : FT) (c : CE) : TE := fun σ H Q => ∃ A H₀ env ex, SR K A H₀ H env ex σ ∧ Post W H (ev T c env) fun d => ∀ ds, d = .list ds → ∀ (a : Addr) (bs : List Addr) (H' : Hp), Same H H' → H a = none → (∀ b ∈ bs, H b = none ∧ H' b = some (.lst [])) → bs.Nodup → a ∉ bs → bs.length = ds.length → H' a = some (.lst (bs.map .ref)) → Q (.ref a) H'
def nilCL : Nat → CL
  | 0 => .nil
  | n + 1 => .cons (.lst .nil) (nilCL n)
theorem evs_nils {env : Env} : ∀ n, evs T (nilCL n) env = .ok (List.replicate n (.list []))
  | 0 => rfl
  | n + 1 => by
    simp only [nilCL, evs, evs_nils n, ev, List.replicate_succ]
    rfl
theorem vn_lst {es : List Expr} (h : es.all isNilL = true) : PE X (.List es pos) (tNew X.K W T (.lst (nilCL es.length))) :=
  PE.imp (pe_lst (pa_news h)) fun pins s σ H Q I ⟨A, H₀, env, ex, S, p⟩ => by
    simp only [ev, evs_nils] at p
    change Post W H (if (List.replicate es.length (PyData.list [])).length ≤ lim then R.ok (PyData.list _) else .stuck) _ at p
    split at p
    · rename_i hl
      intro bs H' e1 hl' hn hb
      rw [List.length_replicate] at hl
      refine ⟨by rw [List.length_map, hl', ← lim_eq]; exact hl, fun q hq => ?_⟩
      have hq' : ∀ b ∈ bs, b ≠ q := fun b hm z => by
        have := (hb b hm).2
        rw [z, hq] at this; cases this
      refine p _ rfl q bs _ (e1.trans (same_upd hq)) (e1.free hq) (fun b hm => ⟨(hb b hm).1, ?_⟩) hn (fun hm => hq' q hm rfl) (by rw [hl']; simp) upd_same
      rw [upd_ne (hq' b hm)]; exact (hb b hm).2
    · exact p.elim
theorem lcF_nil {tgc : Tg} {env0 : Env} {d : D} {x1 : Option D} (h : lcF T tgc (.cn (.bool true)) (.lst .nil) env0 d = .ok x1) : ∃ e, bindT tgc d env0 = .ok e := by
  unfold lcF at h
  cases hq : bindT tgc d env0 with
  | ok e => exact ⟨e, rfl⟩
  | exc n => rw [hq] at h; cases h
  | stuck => rw [hq] at h; cases h
theorem lcF_nil' {tgc : Tg} {env0 : Env} {d : D} {x1 : Option D} (h : lcF T tgc (.cn (.bool true)) (.lst .nil) env0 d = .ok x1) : x1 = some (.list []) := by
  unfold lcF at h
  cases hq : bindT tgc d env0 with
  | ok e =>
    rw [hq] at h
    have h' : R.ok (some (PyData.list [])) = .ok x1 := h
    cases h'; rfl
  | exc n => rw [hq] at h; cases h
  | stuck => rw [hq] at h; cases h
theorem lcn_imp {own : List Nat} {tgc : Tg} {ci : CI} (hown : ∀ i, i ∈ tgS tgc ↔ i ∈ own) {σ : L2.St} {H : Hp} {Q : VK}
    (h : tNew X.K W T (.lc own tgc ci (.cn (.bool true)) (.lst .nil)) σ H Q) : tLc (tI X.K W T ci) (gT X.K tgc) (tT X.K W0 T (.cn (.bool true))) (tLst tNil) own σ H Q := by
  obtain ⟨A, H₀, env, ex, S, p⟩ := h
  let F := lcF T tgc (.cn (.bool true)) (.lst .nil) (wipeE (freeze (lkI ci) env) own)
  have p : Post W H ((its T ci env).bind fun ds => (lcLoop F ds).bind fun r => .ok (PyData.list r)) _ := p
  simp only [post_bind] at p
  refine ⟨A, H₀, env, ex, S, p.imp (Same.refl _) fun ds _ p1 J H1 e1 wk D hD => ?_⟩
  obtain ⟨r, hr, q⟩ := p1.ok_of (lcLoop_ne (f := F) (fun d n => lcF_ne) ds)
  have S1 := S.ext e1
  have hlen := wk.len
  let A' : Av := fun a => A a ∨ a = D
  have dom' : ∀ H', H' D ≠ none → Same H1 H' → ∀ a, A' a → H' a ≠ none := fun H' h1 h2 a z => by
    rcases z with z | z
    · exact fun q => S1.dom a z (h2.free q)
    · rw [z]; exact h1
  let Inv0 : Nat → Hp → Prop := fun i H' => i ≤ ds.length ∧ Same H1 H' ∧ ∃ (bs : List Addr) (rest : List PyData), H' D = some (.lst (bs.map .ref)) ∧ bs.length = i ∧ bs.Nodup ∧ D ∉ bs ∧ (∀ b ∈ bs, H1 b = none ∧ H' b = some (.lst [])) ∧
    lcLoop F (ds.drop i) = .ok rest ∧ r.length = i + rest.length
  refine ⟨fun i m H' => m = ds.length - i ∧ Inv0 i H', ⟨ds.length, by simp, Nat.zero_le _, same_upd hD, [], r, upd_same, rfl, .nil, by simp, by simp, by simpa using hr, by simp⟩, ?_⟩
  rintro i m H2 ⟨rfl, hi, e2, bs, rest, hDv, hbl, hnd, hDn, hbs, hrest, hrl⟩
  have stay : ∀ {P : Addr → HO → Prop}, ∀ b o, rt H1 b = some o → P b o → H2 b = some o := fun b o h _ => e2 b o (rt_some h).1
  by_cases hlt : i < ds.length
  · refine .inr ⟨wk.go H2 stay i hlt, Inv0 (i + 1), fun H' hI => ⟨ds.length - (i + 1), by omega, rfl, hI⟩, fun x H3 hy => ?_⟩
    obtain ⟨e3, d, hd, rd⟩ := wk.yld H2 stay i x H3 hlt hy
    have hdrop : ds.drop i = d :: ds.drop (i + 1) := by
      rw [List.drop_eq_getElem_cons hlt]
      congr 1
      rw [List.getElem?_eq_getElem hlt] at hd
      exact Option.some.inj hd
    rw [hdrop] at hrest
    unfold lcLoop at hrest
    obtain ⟨x1, hx1, rest', hrest', hre⟩ : ∃ x1, F d = .ok x1 ∧ ∃ rest', lcLoop F (ds.drop (i + 1)) = .ok rest' ∧ rest = (match x1 with | some y => y :: rest' | none => rest') := by
      cases h1 : F d with
      | ok x1 =>
        rw [h1] at hrest
        cases h2 : lcLoop F (ds.drop (i + 1)) with
        | ok r' =>
          rw [h2] at hrest
          exact ⟨x1, rfl, r', rfl, (ok_inj hrest).symm⟩
        | exc n => rw [h2] at hrest; cases hrest
        | stuck => rw [h2] at hrest; cases hrest
      | exc n => rw [h1] at hrest; cases hrest
      | stuck => rw [h1] at hrest; cases hrest
    obtain ⟨e, he⟩ := lcF_nil hx1
    have hx1' := lcF_nil' hx1
    subst hx1'
    have hD3 : H3 D = some (.lst (bs.map .ref)) := e3 _ _ hDv
    have S3 : SR X.K (wA (exF ex (lkI ci)) own A') H₀ H3 (wipeE (freeze (lkI ci) env) own) (exF (exF ex (lkI ci)) own) (wipe σ own) :=
      ((S1.more (A' := A') (fun a z => z.imp id fun h => by rw [h]; exact hD) (e2.trans e3) (dom' H3 (by rw [hD3]; simp) (e2.trans e3))).freeze (lkI ci)).wipe own
    refine bind_t he S3 (rd _ fun a z => ?_) fun σ2 S4 hw => ⟨by rw [hw own fun i h => (hown i).mp h, wipe_wipe _ _ _ fun i h => h], ?_⟩
    · rcases z with (z | ⟨j, _, z⟩) | z
      · rcases z with z | z
        · exact .inl (.inl z)
        · rw [z]; exact .inr (rt_none hD)
      · obtain ⟨n2, z2⟩ := exF_some z
        exact .inl (.inr ⟨j, z2, n2⟩)
      · obtain ⟨j, z, _⟩ := z
        obtain ⟨n1, z1⟩ := exF_some z
        obtain ⟨n2, z2⟩ := exF_some z1
        exact .inl (.inr ⟨j, z2, n2⟩)
    · refine ⟨_, H₀, e, _, S4, (show Post W0 H3 (R.ok (PyData.bool true)) _ from ⟨true, rfl, fun H4 e4 => ?_⟩)⟩
      refine iteT ⟨Nat.zero_le _, fun p hp => ?_⟩
      have hD4 : H4 D = some (.lst (bs.map .ref)) := e4 _ _ hD3
      have hpD : p ≠ D := fun z => by rw [z, hD4] at hp; cases hp
      have hpb : p ∉ bs := fun z => by
        have := (e3.trans e4) _ _ (hbs p z).2
        rw [hp] at this; cases this
      refine ⟨bs.map .ref, by rw [upd_ne (Ne.symm hpD)]; exact hD4, ?_, hlt, ?_, bs ++ [p], rest', ?_, by simp [hbl], ?_, ?_, ?_, hrest', ?_⟩
      · rw [List.length_map, hbl]; omega
      · intro b o hb
        have nb : b ≠ D := ne_of_none hb hD
        rw [upd_ne nb]
        exact (((e2.trans e3).trans e4).trans (same_upd hp)) b o hb
      · rw [upd_same, List.map_append]; rfl
      · rw [List.nodup_append]
        refine ⟨hnd, by simp, fun x hx y hy => ?_⟩
        simp at hy
        subst hy
        exact fun z => hpb (by rw [← z]; exact hx)
      · simp only [List.mem_append, List.mem_singleton, not_or]
        exact ⟨hDn, Ne.symm hpD⟩
      · intro b hb
        rcases List.mem_append.mp hb with hb | hb
        · have hbD : b ≠ D := fun z => hDn (by rw [← z]; exact hb)
          refine ⟨(hbs b hb).1, ?_⟩
          rw [upd_ne hbD, upd_ne (fun z => hpb (by rw [← z]; exact hb))]
          exact (e3.trans e4) _ _ (hbs b hb).2
        · simp at hb
          subst hb
          refine ⟨((e2.trans e3).trans e4).free hp, ?_⟩
          rw [upd_ne hpD, upd_same]
      · rw [hrl, hre]; simp; omega
  · have e : i = ds.length := by omega
    subst e
    refine .inl ⟨wk.stop H2 stay, ?_⟩
    have hrest0 : rest = [] := by
      rw [List.drop_length] at hrest
      exact (ok_inj hrest).symm
    rw [hrest0] at hrl
    exact q r rfl D bs H2 (e1.trans e2) (e1.free hD) (fun b hb => ⟨e1.free (hbs b hb).1, (hbs b hb).2⟩) hnd hDn (by rw [hbl, hrl]; rfl) hDv

/-! ### the whole -/
theorem lock_none {L : List Nat} {env : Env} {j : Nat} (h : env[j]? = some none) : (lockL L env)[j]? = some none := by
  have hl : j < env.length := (List.getElem?_eq_some_iff.mp h).1
  cases hq : (lockL L env)[j]? with
  | none =>
    have := List.getElem?_eq_none_iff.mp hq
    rw [lockL_len] at this
    omega
  | some o =>
    cases o with
    | none => rfl
    | some p =>
      rcases lockL_get L j env p.1 p.2 hq with ⟨z, _⟩ | ⟨_, _, z⟩ <;> (rw [h] at z; cases z)
theorem Dp.relax {K : PySem.W.Frag} {A : Av} {H₀ H H' : Hp} {env env' : Env} {ex ex' : Nat → Option Addr} {σ : L2.St} {a : Addr} {bs : List Addr} {xs : List (List D)} (P : Dp K A H₀ H env ex σ i a bs xs) (e : Same H H') (hn : env'[i]? = some none) (hx : ∀ j b, ex' j = some b → ex j = some b) : Dp K A H₀ H' env' ex' σ i a bs xs :=
  ⟨hn, P.hs, e _ _ P.ha, P.nd, P.na, P.old, P.nA, P.len, fun n b x h1 h2 => by
    obtain ⟨vs, e1, r⟩ := P.its n b x h1 h2
    exact ⟨vs, e _ _ e1, (r.same e).anti fun c z => z.imp id fun ⟨j, z, m⟩ => ⟨j, hx j c z, m⟩⟩⟩
theorem reps_of {K : PySem.W.Frag} {H : Hp} {B : Av} : ∀ {xs : List (List D)} {bs : List Addr}, bs.length = xs.length → (∀ (n : Nat) (b : Addr) (x : List D), bs[n]? = some b → xs[n]? = some x → Rep K H B (.list x) (.ref b)) → Reps K H B (xs.map .list) (bs.map .ref)
  | [], [], _, _ => .nil
  | [], _ :: _, h, _ => by simp at h
  | _ :: _, [], h, _ => by simp at h
  | x :: xs, b :: bs, h, q => .cons (q 0 b x rfl rfl) (reps_of (by simpa using h) fun n c y h1 h2 => q (n + 1) c y (by simpa using h1) (by simpa using h2))
theorem Keep.fin {H H' : Hp} {env e' : Env} {ex ex' : Nat → Option Addr} {σ σ' : L2.St} {u v : Option V} {bs : List Addr} {d : D} (k : Keep [] env ex (σ.set i u) e' ex' σ' H (L3.rm bs H')) (tb : TabK TB H H') : Keep TB env ex σ (e'.set i (some (d, .fro))) (exF ex' [i]) (σ'.set i v) H H' where
  k1 := fun b o e t n => (rm_some (k.k1 b o e t n)).2
  k2 := fun j b d' h1 h2 => by
    obtain ⟨n, h1⟩ := exF_some h1
    rw [List.getElem?_set_ne (fun q => n (by simp [q]))] at h2
    exact k.k2 j b d' h1 h2
  k3 := fun j b d' h1 h2 => by
    obtain ⟨n, h1⟩ := exF_some h1
    rw [List.getElem?_set_ne (fun q => n (by simp [q]))] at h2
    exact k.k3 j b d' h1 h2
  k4 := by rw [List.length_set]; exact k.k4
  k5 := fun j h => by
    obtain ⟨n, h⟩ := set_none h
    obtain ⟨x, y⟩ := k.k5 j h
    rw [List.getElem?_set_ne n] at x
    exact ⟨by rw [List.getElem?_set_ne n]; exact x, y⟩
  k6 := tb
theorem set_id {α : Type} {l : List α} {i : Nat} {x : α} (h : l[i]? = some x) : l.set i x = l := by
  apply List.ext_getElem?
  intro j
  by_cases hj : i = j
  · subst hj
    rw [List.getElem?_set_self (List.getElem?_eq_some_iff.mp h).1, h]
  · rw [List.getElem?_set_ne hj]
theorem deep_imp {tgc : Tg} {ci : CI} {D : Ends} {σ : L2.St} {H : Hp} (h : tS X.K TB W T fr (.deep i c tgc ci cs) D σ H) :
    tAsg (tNew X.K W T c) (gName i) { D with nx := fun σ' H' => tFor (tI X.K W T ci) (gT X.K tgc) (tSD X.K TB W T i cs) D σ' H' } σ H := by
  obtain ⟨A, H₀, env, ex, S, tk, p⟩ := h
  have pw : Wish X.K TB W fr A H₀ H env ex σ D (exec T fr (.deep i c tgc ci cs) env) := p
  clear p
  simp only [exec] at pw
  split at pw
  · rename_i hh
    have hn := hid_iff.mp hh
    refine ⟨A, H₀, env, ex, S, ?_⟩
    refine (Post.of_toO (P := Wish X.K TB W fr A H₀ H env ex σ D) S.same pw (fun n h => h) (fun h => h)).imp (Same.refl _) fun d _ q ds hd a bs H1 e1 ha0 hbs hnd hna hlen ha1 => ?_
    subst hd
    dsimp only at q
    split at q
    · have hA : ∀ x, dA A a bs x → A x ∨ H x = none := fun x z => by
        rcases z with z | z | z
        · exact .inl z
        · rw [z]; exact .inr ha0
        · exact .inr (hbs x z).1
      have S1 : SR X.K (dA A a bs) H₀ H1 env ex (σ.set i (some (.ref a))) := (S.more hA e1 fun x z => by
        rcases z with z | z | z
        · exact fun y => S.dom x z (e1.free y)
        · rw [z, ha1]; simp
        · rw [(hbs x z).2]; simp).setN hn _
      have hiσ : i < σ.length := by rw [S.len]; exact (List.getElem?_eq_some_iff.mp hn).1
      have P1 : Dp X.K A H₀ H1 env ex (σ.set i (some (.ref a))) i a bs (ds.map fun _ => []) := by
        refine ⟨hn, List.getElem?_set_self hiσ, ha1, hnd, hna, fun x z => S.same.free ?_, fun x z y => ?_, by simp [hlen], fun n b x h1 h2 => ⟨[], (hbs b (List.mem_of_getElem? h1)).2, ?_⟩⟩
        · rcases z with z | z
          · rw [z]; exact ha0
          · exact (hbs x z).1
        · refine S.dom x y ?_
          rcases z with z | z
          · rw [z]; exact ha0
          · exact (hbs x z).1
        · rw [List.getElem?_map] at h2
          cases hq : ds[n]? with
          | none => rw [hq] at h2; cases h2
          | some y => rw [hq] at h2; cases h2; exact .nil
      show tFor (tI X.K W T ci) (gT X.K tgc) (tSD X.K TB W T i cs) D (σ.set i (some (.ref a))) H1
      refine ⟨dA A a bs, H₀, env, ex, S1, ?_⟩
      refine (Post.of_toO (P := Wish X.K TB W fr A H₀ H env ex σ D) S1.same q (fun n h => h) (fun h => h)).imp (Same.refl _) fun ws _ q2 J H2 e2 wk => ?_
      have S3 : SR X.K (dA A a bs) H₀ H2 (lockL (lkI0 ci) (freeze (lkI ci) env)) (exF ex (lkI ci)) (σ.set i (some (.ref a))) := ((S1.ext e2).freeze _).lockL _
      have hfn : (freeze (lkI ci) env)[i]? = some none := by
        rw [freeze_get]
        split
        · rw [hn]; rfl
        · exact hn
      have P3 : Dp X.K A H₀ H2 (lockL (lkI0 ci) (freeze (lkI ci) env)) (exF ex (lkI ci)) (σ.set i (some (.ref a))) i a bs (ds.map fun _ => []) := P1.relax e2 (lock_none hfn) fun j b z => (exF_some z).2
      let fin : OD → O := fun o => o.toO fun e xs => .nx ((unlockL (lkI0 ci) (freeze (lkI ci) env) e).set i (some (.list (xs.map .list), .fro)))
      let turn : PyData → Env → List (List PyData) → OD := fun w e xs => (bindT tgc w e).toOD fun e' => if hid e' i then execD T i cs e' xs else .st
      let Iv : Nat → L2.St → Hp → Prop := fun n σ' H' => n ≤ ws.length ∧ ∃ env' ex' xs', SR X.K (dA A a bs) H₀ H' env' ex' σ' ∧ Dp X.K A H₀ H' env' ex' σ' i a bs xs' ∧
        Keep [] (lockL (lkI0 ci) (freeze (lkI ci) env)) (exF ex (lkI ci)) (σ.set i (some (.ref a))) env' ex' σ' (rm bs H2) (rm bs H') ∧ TabK TB H2 H' ∧ Wish X.K TB W fr A H₀ H env ex σ D (fin (forD turn (ws.drop n) env' xs'))
      refine ⟨fun n m σ' H' => m = ws.length - n ∧ Iv n σ' H', ⟨ws.length, by simp, Nat.zero_le _, _, _, _, S3, P3, .refl (Same.refl _), .same (Same.refl _), q2⟩, ?_⟩
      rintro n m σ' H' ⟨rfl, hi', env', ex', xs', S', P', k', tb', q'⟩
      have nbs : ∀ b o, H2 b = some o → (¬ ExM ex (dA A a bs) (lkI0 ci) b ∨ tupo o = true) → b ∉ bs := fun b o hb z m => by
        rcases z with z | z
        · exact z (.inl (.inr (.inr m)))
        · have := e2 _ _ (hbs b m).2
          rw [hb] at this; cases this; cases z
      have stay : ∀ b o, rt H2 b = some o → (¬ ExM ex (dA A a bs) (lkI0 ci) b ∨ tupo o = true) → H' b = some o := fun b o hr z => (rm_some (k'.k1 b o (by rw [rm_out (nbs b o (rt_some hr).1 z)]; exact (rt_some hr).1) (rt_some hr).2 fun j d h1 h2 => by
        have hb := (rt_some hr).1
        obtain ⟨n1, h1'⟩ := exF_some h1
        rcases z with z | z
        · refine z (.inr ⟨j, h1', fun m => ?_⟩)
          rcases lockL_get _ _ _ _ _ h2 with ⟨_, y⟩ | ⟨y, _⟩
          · exact y rfl m
          · cases y
        · obtain ⟨v, _, _, o'⟩ := S3.at_ j d _ h2
          rcases o' with o' | ⟨a', _, ea, oa⟩
          · cases o'
          · rw [h1] at ea; cases ea
            rw [oa.ntup hb] at z; cases z)).2
      by_cases hlt : n < ws.length
      · refine .inr ⟨wk.go H' stay n hlt, Iv (n + 1), fun σ2 H2 hI => ⟨ws.length - (n + 1), by omega, rfl, hI⟩, fun x H3 hy => ?_⟩
        obtain ⟨e3, d, hd, rd⟩ := wk.yld H' stay n x H3 hlt hy
        have hdrop : ws.drop n = d :: ws.drop (n + 1) := by
          rw [List.drop_eq_getElem_cons hlt]
          congr 1
          rw [List.getElem?_eq_getElem hlt] at hd
          exact Option.some.inj hd
        rw [hdrop] at q'
        have q2 : Wish X.K TB W fr A H₀ H env ex σ D (fin (match turn d env' xs' with | .nx env2 xs2 => forD turn (ws.drop (n + 1)) env2 xs2 | o => o)) := q'
        have S2 := S'.ext e3
        cases hbd : bindT tgc d env' with
        | exc n => exact absurd hbd bindT_ne
        | stuck =>
          have ht : turn d env' xs' = .st := by show (bindT tgc d env').toOD _ = _; rw [hbd]; rfl
          rw [ht] at q2
          exact (show False from q2).elim
        | ok e4 =>
          have ht : turn d env' xs' = if hid e4 i then execD T i cs e4 xs' else .st := by show (bindT tgc d env').toOD _ = _; rw [hbd]; rfl
          rw [ht] at q2
          by_cases hh4 : hid e4 i = true
          · rw [if_pos hh4] at q2
            refine bind_t hbd S2 (rd _ fun b z => ?_) fun σ3 S4 hw => ?_
            · rcases z with z | ⟨j, z, _⟩
              · exact .inl (.inl z)
              · rcases k'.own5 S' z with y | ⟨j', y⟩
                · by_cases hb : b ∈ bs
                  · exact absurd (.inr (.inr hb)) (S'.new j b z)
                  · refine .inr ?_
                    cases q : rt H2 b with
                    | none => rfl
                    | some o =>
                      obtain ⟨q1, q2⟩ := rt_some q
                      rw [rt_of (by rw [rm_out hb]; exact q1) q2] at y; cases y
                · obtain ⟨n1, y1⟩ := exF_some y
                  exact .inl (.inr ⟨j', y1, n1⟩)
            · have kb : Keep TB env' ex' σ' e4 (exF ex' (tgS tgc)) σ3 H' H3 := Keep.bindT hbd hw e3
              have P4 := P'.keep S' S4 kb (hid_iff.mp hh4)
              have tk4 : TOk TB (dA A a bs) H₀ H3 := TOk.deep (tk.same S (e1.trans e2)) S3 P4 (k'.trans kb.rm) (tb'.trans kb.k6)
              refine ⟨A, H₀, e4, _, a, bs, xs', S4, P4, tk4, ?_⟩
              show WishD X.K TB W A H₀ H3 e4 _ σ3 i a bs { D with nx := Iv (n + 1), ct := Iv (n + 1), bk := D.nx } (execD T i cs e4 xs')
              cases hx : execD T i cs e4 xs' with
              | nx env5 xs5 =>
                rw [hx] at q2
                exact fun σ5 H5 ex5 S5 P5 k5 tb5 => ⟨hlt, env5, ex5, xs5, S5, P5, (k'.trans kb.rm).trans k5, (tb'.trans kb.k6).trans tb5, q2⟩
              | ex n => rw [hx] at q2; exact q2
              | st => rw [hx] at q2; exact q2
          · rw [if_neg hh4] at q2
            exact (show False from q2).elim
      · have e : n = ws.length := by omega
        subst e
        refine .inl ⟨wk.stop H' stay, ?_⟩
        rw [List.drop_length] at q'
        have q2 : Wish X.K TB W fr A H₀ H env ex σ D (.nx ((unlockL (lkI0 ci) (freeze (lkI ci) env) env').set i (some (.list (xs'.map .list), .fro)))) := q'
        have S5 : SR X.K A H₀ H' (unlockL (lkI0 ci) (freeze (lkI ci) env) env') ex' σ' := (S'.unlockL _).less fun x z => .inl z
        have hsub : ∀ c, ExM (exF ex' [i]) A [] c → ExM ex' (dA A a bs) [] c := fun c z => by
          rcases z with z | ⟨j, z, m⟩
          · exact .inl (.inl z)
          · exact .inr ⟨j, (exF_some z).2, m⟩
        have hr : Rep X.K H' (ExM (exF ex' [i]) A []) (.list (xs'.map .list)) (.ref a) := by
          refine .lst (.inl ⟨fun z => ?_, .inl P'.ha⟩) (reps_of P'.len fun n b x h1 h2 => ?_)
          · rcases z with z | ⟨j, z, _⟩
            · exact P'.nA a (.inl rfl) z
            · exact S'.new j a (exF_some z).2 (.inr (.inl rfl))
          · obtain ⟨vs, e5, r5⟩ := P'.its n b x h1 h2
            have hm := List.mem_of_getElem? h1
            refine .lst (.inl ⟨fun z => ?_, .inl e5⟩) (r5.anti hsub)
            rcases z with z | ⟨j, z, _⟩
            · exact P'.nA b (.inr hm) z
            · exact S'.new j b (exF_some z).2 (.inr (.inr hm))
        have hle : i < (unlockL (lkI0 ci) (freeze (lkI ci) env) env').length := by
          rw [unlockL_len, k'.k4, lockL_len, freeze_len]
          exact (List.getElem?_eq_some_iff.mp hn).1
        have S6 := S5.setF hle hr
        have k6 : Keep [] env ex (σ.set i (some (.ref a))) (unlockL (lkI0 ci) (freeze (lkI ci) env) env') ex' σ' H (rm bs H') := by
          refine (Keep.freeze (lkI ci) (H' := rm bs H2) fun b o hb => ?_).trans k'.locked
          have nb : b ∉ bs := fun m => by rw [(hbs b m).1] at hb; cases hb
          rw [rm_out nb]
          exact e2 _ _ (e1 _ _ hb)
        have k7 := Keep.fin (v := some (.ref a)) (d := .list (xs'.map .list)) k6 ((TabK.same (e1.trans e2)).trans tb')
        rw [set_id P'.hs] at S6 k7
        exact q2 σ' H' _ S6 k7
    · exact (show False from q).elim
  · exact (show False from pw).elim
theorem seq_imp {D : Ends} {σ : L2.St} {H : Hp} (h : tS X.K TB W T fr (.seq cs cs') D σ H) : tS X.K TB W T fr cs { D with nx := fun σ' H' => tS X.K TB W T fr cs' D σ' H' } σ H := by
  obtain ⟨A, H₀, env, ex, S, tk, p⟩ := h
  refine ⟨A, H₀, env, ex, S, tk, ?_⟩
  simp only [exec] at p
  cases hx : exec T fr cs env with
  | nx env' =>
    rw [hx] at p
    intro σ' H' ex' S' k
    refine ⟨A, H₀, env', ex', S', tk.keep S k, ?_⟩
    change match exec T fr cs' env' with | .nx env' => _ | .rt d => _ | .ex n => _ | .st => False at p
    cases hy : exec T fr cs' env' with
    | nx env2 => rw [hy] at p; exact fun σ2 H2 ex2 S2 k2 => p σ2 H2 ex2 S2 (k.trans k2)
    | rt d => rw [hy] at p; exact p
    | ex n => rw [hy] at p; exact p
    | st => rw [hy] at p; exact p
  | rt d => rw [hx] at p; exact p
  | ex n => rw [hx] at p; exact p
  | st => rw [hx] at p; exact p
theorem vs_deep {s1 : Stmt} {tg iter : Expr} {body rest : List Stmt} {tgc : Tg} {ci : CI} {cr : CS} (h1 : PS X s1 (tAsg (tNew X.K W T c) (gName i))) (hp : PassesOwn (model X.prog X.w) X.A X.env X.xe) (hc : X.calm = true) (hi : PI X tg iter (tI X.K W T ci)) (hg : PG X tg (gT X.K tgc)) (hb : PSs X body (tSD X.K TB W T i cs)) (hs : ∀ x, foldedSetIterable iter X.env x = pure x)
    (h3 : PSs X rest (tS X.K TB W T fr cr)) : PSs X (s1 :: .For tg iter body [] pos :: rest) (tS X.K TB W T fr (.seq (.deep i c tgc ci cs) cr)) :=
  PSs.imp (pss_cons h1 (pss_cons (ps_for hp hc hi hg hb hs) h3)) fun pins s σ H D I h => deep_imp (seq_imp h)
theorem vn_lc {own : List (Str × Nat)} {tg iter : Expr} {scope : Scope} {tgc : Tg} {ci : CI} {lp py spos : Pos} {y : Str} (hc : X.calm = true) (hN : X.N.Nodup) (hin : X.N[i]? = some y) (hx : Loc X.env.scope y) (hf : X.fn y = true ∨ X.env.scope.names.lookup y = some .local) (hi : PI X tg iter (tI X.K W T ci)) (ok : BlkOk X.N X.env.scope scope own)
    (hown : ∀ i, i ∈ tgS tgc ↔ i ∈ own.map (·.2))
    (hg : ∀ (s : Shared) (H : Hp) (C : Addr) (cl : List (Str × Addr)) (fp : List Addr), PG (X.blk s H scope (compEnvC scope cl C X.env) fp) tg (gT X.K tgc)) (hs : ∀ x, foldedSetIterable iter X.env x = pure x)
    (hsw : swapsWith (.ListComp (.List [] lp) [⟨tg, iter, [], 0⟩] scope pos) (some (.Name y py)) spos.line X.env = pure false ∨ (X.env.scope.names.lookup y = some .local ∧ swapsWith (.ListComp (.List [] lp) [⟨tg, iter, [], 0⟩] scope pos) (some (.Name y py)) spos.line X.env = pure true)) :
    PS X (.Assign [.Name y py] (.ListComp (.List [] lp) [⟨tg, iter, [], 0⟩] scope pos) spos) (tAsg (tNew X.K W T (.lc (own.map (·.2)) tgc ci (.cn (.bool true)) (.lst .nil))) (gName i)) := by
  rcases hsw with hsw | ⟨hl, hsw⟩
  · exact ps_set hN hin hx (PE.imp (pe_lc hc hN hi ok hg (fun _ _ _ _ _ => vts_nil) (fun _ _ _ _ _ => pe_lst pa_nil) hs) fun pins s σ H Q I h => lcn_imp hown h) hsw hf
  · exact PS.imp (ps_setLc hc hN hin hl hsw hi ok hg (fun _ _ _ _ _ => vts_nil) (fun _ _ _ _ _ => pe_lst pa_nil) hs) fun pins s σ H D I h => lcn_imp hown h
end
end L3

set_option Elab.async false
set_option linter.all false
set_option maxRecDepth 100000
set_option maxHeartbeats 4000000
/-! from the text's form to the evaluator's terms -/
namespace L3
open PySem PySem.Spec PyProof.Rows L2

/-- what is known of the names at a place of the text -/
structure Tc where
  sc : Scope
  N : List Str
  top : Bool
  calls : List (Str × String)
  consts : List (Str × D)
  excs : List (Str × String)
  bns : List Str
  refs : Option (Str × List (String × Str))

def nmOk (x : Str) : Bool := !(x == ("__debug__" : Str)) && (!(x == ("__classdict__" : Str)) && decide (x ≠ "__name__"))
def Tc.vis (t : Tc) (x : Str) : Bool := match t.sc.names.lookup x with | some .local => true | some .cell => true | some .free => true | _ => false
def Tc.gl (t : Tc) (x : Str) : Bool := match t.sc.names.lookup x with | some .globalImplicit => true | _ => false
def Tc.sto (t : Tc) (x : Str) : Bool := match t.sc.names.lookup x with | some .local => true | some .cell => t.top | _ => false
def ixOf : List Str → Str → Option Nat
  | [], _ => none
  | y :: r, x => if y = x then some 0 else (ixOf r x).map (· + 1)
def Tc.slot (t : Tc) (x : Str) : Option Nat := if nmOk x && t.vis x then ixOf t.N x else none
def Tc.store (t : Tc) (x : Str) : Option Nat := if t.sto x then ixOf t.N x else none
def Tc.blt (t : Tc) (x : Str) : Bool := nmOk x && (t.gl x && decide (x ∈ t.bns))
def Tc.inner (t : Tc) (scope : Scope) : Tc := { t with sc := relS scope t.sc, top := false }

def opB : Operator → Option B2
  | .Add => some .add | .Sub => some .sub | .Mult => some .mul | .FloorDiv => some .fdiv | .Mod => some .mod | .Pow => some .pow
  | .LShift => some .shl | .RShift => some .shr | .BitAnd => some .band | .BitOr => some .bor | .BitXor => some .bxor
  | _ => none
def opC : CmpOp → Option B2
  | .Eq => some .eq | .NotEq => some .ne | .Lt => some .lt | .LtE => some .le | .Gt => some .gt | .GtE => some .ge | .Is => some .is_ | .IsNot => some .isnt | .In => some .inn | .NotIn => some .nin
/-- a display so many times -/
def repB : Operator → CE → B2 → B2
  | .Mult, .lst _, _ => .rep
  | .Mult, .tup _, _ => .rep
  | _, _, o => o
def cnD : Const → Option D
  | .none => some .none | .bool b => some (.bool b) | .int i => some (.int i) | .str s => some (.str s)
  | _ => none
/-- the built-ins of one argument; true: a class -/
def b1Of (x : Str) : Option (U1 × Bool) :=
  if x = "len" then some (.len, false) else if x = "all" then some (.all, false) else if x = "any" then some (.any, false) else if x = "sum" then some (.sum, false)
  else if x = "sorted" then some (.sorted, false) else if x = "tuple" then some (.tupleOf, true) else if x = "list" then some (.listOf, true) else if x = "max" then some (.maxL, false) else if x = "min" then some (.minL, false) else if x = "int" then some (.intOf, true) else if x = "str" then some (.strOf, true) else none
/-- sorted(set(e)), len(set(e)) -/
def ssetOf (f : Str) : Expr → Option (U1 × Expr)
  | .Call (.Name g _) [e] [] _ => if f = "sorted" ∧ g = "set" then some (.sset, e) else if f = "len" ∧ g = "set" then some (.lset, e) else none
  | _ => none
/-- list(range(..)), tuple(range(..)) -/
def rgOf (f : Str) : Expr → Option Bool
  | .Call (.Name g _) _ [] _ => if g = "range" then (if f = "list" then some false else if f = "tuple" then some true else none) else none
  | _ => none
def b2Of (x : Str) : Option B2 := if x = "min" then some .min2 else if x = "max" then some .max2 else none
def tyOf (x : Str) : Option Ty :=
  if x = "int" then some .int else if x = "bool" then some .bool else if x = "str" then some .str else if x = "tuple" then some .tuple else if x = "list" then some .list else if x = "dict" then some .dict else none
/-- an index that is no slice -/
def plainIx : Expr → Bool
  | .Slice .. => false
  | _ => true
def tvOk : Expr → Bool
  | .Name .. => true | .Call .. => true | .Constant .. => true | .Subscript .. => true | .BinOp .. => true | .ListComp .. => true | .Tuple .. => true | .List .. => true
  | _ => false
def notSet : Expr → Bool
  | .Set .. => false
  | _ => true
def notComp : Expr → Bool
  | .ListComp .. => false | .SetComp .. => false | .DictComp .. => false
  | _ => true
def isTupE : Expr → Bool
  | .Tuple .. => true
  | _ => false
def notTup : Expr → Bool
  | .Tuple .. => false | .List .. => false
  | _ => true

def trNs (t : Tc) : List Expr → Option (List (Str × Nat))
  | [] => some []
  | .Name x _ :: es => match t.store x, trNs t es with
    | some i, some r => some ((x, i) :: r)
    | _, _ => none
  | _ => none
def trTg (t : Tc) : Expr → Option (Tg × List (Str × Nat))
  | .Name x _ => match t.store x with
    | some i => some (.one i, [(x, i)])
    | none => none
  | .Tuple [.Name x _, .Tuple es _ _] _ _ => match t.store x, trNs t es with
    | some i, some r => some (.pr i (r.map (·.2)), (x, i) :: r)
    | _, _ => none
  | .Tuple es _ _ => match trNs t es with
    | some r => some (.tup (r.map (·.2)), r)
    | none => none
  | _ => none

mutual
def trE : Nat → Tc → Expr → Option CE
  | 0, _, _ => none
  | n + 1, tc, .Constant k _ _ => match cnD k with
    | some d => some (.cn d)
    | none => none
  | n + 1, tc, .Name x _ => match tc.slot x with
    | some i => some (.var i)
    | none => if nmOk x && tc.gl x then (match tc.consts.lookup x with
      | some d => some (.cn d)
      | none => none) else none
  | n + 1, tc, .Tuple es _ _ => match trL n tc es with
    | some cs => some (.tup cs)
    | none => none
  | n + 1, tc, .List es _ => match trL n tc es with
    | some cs => some (.lst cs)
    | none => none
  | n + 1, tc, .Dict [] [] _ => some .dct0
  | n + 1, tc, .BinOp a op b _ => match opB op, trE n tc a, trE n tc b with
    | some o, some x, some y => some (.b (repB op x o) x y)
    | _, _, _ => none
  | n + 1, tc, .UnaryOp .Not a _ => match trE n tc a with
    | some x => some (.not x)
    | none => none
  | n + 1, tc, .UnaryOp .USub a _ => match trE n tc a with
    | some x => some (.u .neg x)
    | none => none
  | n + 1, tc, .BoolOp _ [a] _ => trE n tc a
  | n + 1, tc, .BoolOp .And (a :: b :: r) p => match trE n tc a, trE n tc (.BoolOp .And (b :: r) p) with
    | some x, some y => some (.and x y)
    | _, _ => none
  | n + 1, tc, .BoolOp .Or (a :: b :: r) p => match trE n tc a, trE n tc (.BoolOp .Or (b :: r) p) with
    | some x, some y => some (.or x y)
    | _, _ => none
  | n + 1, tc, .Compare a [op] [b] _ => match opC op, trE n tc a, trE n tc b with
    | some o, some x, some y => if notSet b then some (.b o x y) else none
    | _, _, _ => none
  | n + 1, tc, .Compare a [op, op'] [b, c] _ => match opC op, opC op', trE n tc a, trE n tc b, trE n tc c with
    | some o, some o', some x, some y, some z => if notSet c then some (.chain o o' x y z) else none
    | _, _, _, _, _ => none
  | n + 1, tc, .IfExp c a b _ => match trT n tc c, trE n tc a, trE n tc b with
    | some z, some x, some y => some (.ite z x y)
    | _, _, _ => none
  | n + 1, tc, .Subscript a (.Slice none none (some (.UnaryOp .USub (.Constant (.int i) _ _) _)) _) _ => match trE n tc a with
    | some x => if i = 1 then some (.u .rev x) else none
    | none => none
  | n + 1, tc, .Subscript a (.Slice none (some (.Constant (.int j) _ _)) (some (.UnaryOp .USub (.Constant (.int i) _ _) _)) _) _ => match trE n tc a with
    | some x => if i = 1 ∧ j = 0 then some (.u .revT x) else none
    | none => none
  | n + 1, tc, .Subscript a (.Slice lo hi none _) _ => match trE n tc a, trO n tc lo, trO n tc hi with
    | some x, some l, some h => some (.sl x l h)
    | _, _, _ => none
  | n + 1, tc, .Subscript a i _ => match trE n tc a, trE n tc i with
    | some x, some y => if plainIx i then some (.b .idx x y) else none
    | _, _ => none
  | n + 1, tc, .ListComp elt [⟨tg, iter, ifs, asy⟩] scope _ => match trTg (tc.inner scope) tg, trI n tc tg iter, trC n (tc.inner scope) ifs, trE n (tc.inner scope) elt with
    | some (tgc, own), some ci, some cc, some ce => if asy = 0 ∧ blkC tc.N tc.sc scope own = true ∧ notSet iter = true then some (.lc (own.map (·.2)) tgc ci cc ce) else none
    | _, _, _, _ => none
  | n + 1, tc, .Call (.Name f _) [a] [] _ => if nmOk f && tc.gl f && notStar a then (match tc.calls.lookup f with
      | some key => (match trL n tc [a] with
        | some cs => some (.call key cs)
        | none => none)
      | none => if tc.blt f then (match ssetOf f a with
        | some (u, e) => (match trE n tc e with
          | some x => if tc.blt "set" && notStar e then some (.u u x) else none
          | none => none)
        | none => (match rgOf f a with
          | some t => (match trR n tc a with
            | some ci => some (.rg t ci)
            | none => none)
          | none => (match b1Of f, trE n tc a with
            | some (u, _), some x => some (.u u x)
            | _, _ => none))) else none) else none
  | n + 1, tc, .Call (.Name f _) [a, b] [] _ => if nmOk f && tc.gl f && (notStar a && notStar b) then (match tc.calls.lookup f with
      | some key => (match trL n tc [a, b] with
        | some cs => some (.call key cs)
        | none => none)
      | none => if tc.blt f then (if f = "isinstance" then (match b, trE n tc a with
          | .Name y _, some x => (match tyOf y with
            | some t => if tc.blt y then some (.isi x t) else none
            | none => none)
          | _, _ => none)
        else (match b2Of f, trE n tc a, trE n tc b with
          | some o, some x, some y => some (.b o x y)
          | _, _, _ => none)) else none) else none
  | n + 1, tc, .Call (.Name f _) (a :: b :: c :: r) [] _ => if nmOk f && tc.gl f && (a :: b :: c :: r).all notStar then (match tc.calls.lookup f, trL n tc (a :: b :: c :: r) with
      | some key, some cs => some (.call key cs)
      | _, _ => none) else none
  | _ + 1, _, _ => none
def trT : Nat → Tc → Expr → Option CE
  | 0, _, _ => none
  | n + 1, tc, .UnaryOp .Not a _ => match trT n tc a with
    | some x => some (.not x)
    | none => none
  | n + 1, tc, .BoolOp op es p => trW n tc (.BoolOp op es p)
  | n + 1, tc, .Compare a [op] [b] _ => match opC op, trE n tc a, trE n tc b with
    | some o, some x, some y => if notSet b then some (.b o x y) else none
    | _, _, _ => none
  | n + 1, tc, .Compare a [op, op'] [b, c] _ => match opC op, opC op', trE n tc a, trE n tc b, trE n tc c with
    | some o, some o', some x, some y, some z => if notSet c then some (.chain o o' x y z) else none
    | _, _, _, _, _ => none
  | n + 1, tc, e => if tvOk e then trE n tc e else none
def trW : Nat → Tc → Expr → Option CE
  | 0, _, _ => none
  | n + 1, tc, .BoolOp .And [a] _ => trT n tc a
  | n + 1, tc, .BoolOp .Or [a] _ => trT n tc a
  | n + 1, tc, .BoolOp .And (a :: b :: r) p => match trT n tc a, trW n tc (.BoolOp .And (b :: r) p) with
    | some x, some y => some (.and x y)
    | _, _ => none
  | n + 1, tc, .BoolOp .Or (a :: b :: r) p => match trT n tc a, trW n tc (.BoolOp .Or (b :: r) p) with
    | some x, some y => some (.or x y)
    | _, _ => none
  | _ + 1, _, _ => none
def trL : Nat → Tc → List Expr → Option CL
  | 0, _, _ => none
  | n + 1, tc, [] => some .nil
  | n + 1, tc, e :: es => match trE n tc e, trL n tc es with
    | some c, some cs => if notStar e then some (.cons c cs) else none
    | _, _ => none
def trO : Nat → Tc → Option Expr → Option CE
  | 0, _, _ => none
  | n + 1, tc, none => some (.cn .none)
  | n + 1, tc, some e => match trE n tc e with
    | some c => some (.u .ix c)
    | none => none
def trC : Nat → Tc → List Expr → Option CE
  | 0, _, _ => none
  | n + 1, tc, [] => some (.cn (.bool true))
  | n + 1, tc, [e] => trT n tc e
  | _ + 1, _, _ => none
def trR : Nat → Tc → Expr → Option CI
  | 0, _, _ => none
  | n + 1, tc, .Call (.Name f _) [a] [] _ => match trE n tc a with
    | some x => if f = "range" ∧ tc.blt "range" = true ∧ notStar a = true then some (.rng1 x) else none
    | none => none
  | n + 1, tc, .Call (.Name f _) [a, b] [] _ => match trE n tc a, trE n tc b with
    | some x, some y => if f = "range" ∧ tc.blt "range" = true ∧ notStar a = true ∧ notStar b = true then some (.rng2 x y) else none
    | _, _ => none
  | _ + 1, _, _ => none
def trI : Nat → Tc → Expr → Expr → Option CI
  | 0, _, _, _ => none
  | n + 1, tc, tg, .Call (.Name f p1) args [] p2 => if f = "range" then (if tc.blt f then (match args with
        | [a] => (match trE n tc a with
          | some x => if notStar a then some (.rng1 x) else none
          | none => none)
        | [a, b] => (match trE n tc a, trE n tc b with
          | some x, some y => if notStar a && notStar b then some (.rng2 x y) else none
          | _, _ => none)
        | _ => none) else none)
      else if f = "enumerate" then (if tc.blt f && isTupE tg then (match args with
        | [a] => (match trE n tc a with
          | some x => if notStar a then some (.enum x) else none
          | none => none)
        | _ => none) else none)
      else if f = "zip" then (if tc.blt f && isTupE tg then (match args with
        | [a, b] => (match trE n tc a, trE n tc b with
          | some x, some y => if notStar a && notStar b then some (.zip x y) else none
          | _, _ => none)
        | _ => none) else none)
      else if f = "reversed" then (if tc.blt f then (match args with
        | [a] => (match trE n tc a with
          | some x => if notStar a then some (.rev x) else none
          | none => none)
        | _ => none) else none)
      else (match trE n tc (.Call (.Name f p1) args [] p2) with
        | some x => some (.seq x)
        | none => none)
  | n + 1, tc, _, e => match trE n tc e with
    | some x => some (.seq x)
    | none => none
end

/-- the context at that place -/
structure CxOk (X : Cx) (W : Wn) (T : FT) (tc : Tc) : Prop where
  sc : X.env.scope = tc.sc
  N : X.N = tc.N
  nd : X.N.Nodup
  calm : X.calm = true
  fn : tc.top = true → ∀ x, X.fn x = true
  pass : tc.top = true → PassesOwn (model X.prog X.w) X.A X.env X.xe
  takes : Takes X (wx X.mg W)
  units : X.A.units + 80 < cLine
  calls : ∀ x key, tc.calls.lookup x = some key → ∃ (k : Nat) (f : Addr) (fd : FuncData) (ps : List Str), FnOk X.prog X.w X.K X.mg X.base (L2.CX X.prog X.w) k f fd ps (spD X.K X.mg (T.f key) (T.fr key)) ∧ Room k X.A ∧ X.mg x = some (.ref f) ∧ PySem.W.keepIn X.K (.ref f) = true ∧ Binds X.K fd ps []
  consts : ∀ x d, tc.consts.lookup x = some d → ∃ u v, X.mg x = some u ∧ RelV v u ∧ ∀ H A, Rep X.K H A d v
  excs : ∀ x n, tc.excs.lookup x = some n → ∃ C, ExcOk X x n C
  bns : ∀ x, x ∈ tc.bns → X.mg x = none
theorem ixOf_at : ∀ {N : List Str} {x : Str} {i : Nat}, ixOf N x = some i → N[i]? = some x
  | [], _, _, h => by cases h
  | y :: r, x, i, h => by
    unfold ixOf at h
    split at h
    · rename_i e; cases h; subst e; rfl
    · cases hq : ixOf r x with
      | none => rw [hq] at h; cases h
      | some j => rw [hq] at h; cases h; simpa using ixOf_at hq
section
variable {X : Cx} {W : Wn} {T : FT} {tc : Tc} {x : Str} {i : Nat}
theorem CxOk.slot (C : CxOk X W T tc) (h : tc.slot x = some i) : X.N[i]? = some x ∧ Vis X.env.scope x ∧ (x == ("__debug__" : Str)) = false ∧ (x == ("__classdict__" : Str)) = false := by
  unfold Tc.slot at h
  split at h
  · rename_i hh
    simp only [nmOk, Bool.and_eq_true, Bool.not_eq_true', decide_eq_true_eq] at hh
    obtain ⟨⟨h1, h2, h3⟩, h4⟩ := hh
    refine ⟨by rw [C.N]; exact ixOf_at h, ?_, h1, h2⟩
    rw [C.sc]
    unfold Tc.vis at h4
    split at h4
    · exact .inl (by assumption)
    · exact .inr (.inl (by assumption))
    · exact .inr (.inr (by assumption))
    · cases h4
  · cases h
theorem CxOk.store (C : CxOk X W T tc) (h : tc.store x = some i) : X.N[i]? = some x ∧ L2.Loc X.env.scope x ∧ (X.fn x = true ∨ X.env.scope.names.lookup x = some .local) := by
  unfold Tc.store at h
  split at h
  · rename_i hh
    refine ⟨by rw [C.N]; exact ixOf_at h, ?_⟩
    rw [C.sc]
    unfold Tc.sto at hh
    split at hh
    · rename_i e; exact ⟨.inl e, .inr e⟩
    · rename_i e; exact ⟨.inr e, .inl (C.fn hh x)⟩
    · cases hh
  · cases h
theorem CxOk.gl (C : CxOk X W T tc) (h : tc.gl x = true) : Gl X x := by
  unfold Tc.gl at h
  split at h
  · rename_i e
    show X.env.scope.names.lookup x = _
    rw [C.sc]; exact e
  · cases h
theorem nm_of (h : nmOk x = true) : (x == ("__debug__" : Str)) = false ∧ (x == ("__classdict__" : Str)) = false ∧ x ≠ "__name__" := by
  simpa only [nmOk, Bool.and_eq_true, Bool.not_eq_true', decide_eq_true_eq] using h
theorem CxOk.blt (C : CxOk X W T tc) (h : tc.blt x = true) : Gl X x ∧ X.mg x = none ∧ (x == ("__debug__" : Str)) = false ∧ x ≠ "__name__" := by
  simp only [Tc.blt, Bool.and_eq_true, decide_eq_true_eq] at h
  obtain ⟨h1, h2, h3⟩ := h
  obtain ⟨n1, _, n3⟩ := nm_of h1
  exact ⟨C.gl h2, C.bns x h3, n1, n3⟩
theorem CxOk.inner (C : CxOk X W T tc) (s : Shared) (H : Hp) (scope : Scope) (cl : List (Str × Addr)) (Ca : Addr) (fp : List Addr) : CxOk (X.blk s H scope (compEnvC scope cl Ca X.env) fp) W0 T (tc.inner scope) where
  sc := by
    show relS scope X.env.scope = _
    rw [C.sc]; rfl
  N := C.N
  nd := C.nd
  calm := C.calm
  fn := fun h => by cases h
  pass := fun h => by cases h
  takes := (takes0 (X := X.blk s H scope (compEnvC scope cl Ca X.env) fp)).imp fun c d σ H h => by
    obtain ⟨_, _, _, _, _, z⟩ := h
    exact z
  units := C.units
  calls := C.calls
  consts := C.consts
  excs := fun x n h => by
    obtain ⟨c, e⟩ := C.excs x n h
    exact ⟨c, ⟨e.name, e.gC, e.xC, e.kC, e.bC, e.tC⟩⟩
  bns := C.bns
end
end L3

set_option Elab.async false
set_option linter.all false
set_option maxRecDepth 100000
set_option maxHeartbeats 1000000
/-! min(a, b) of two tuples of data -/
namespace PySem.W
open PySem PySem.Spec PyProof.Rows
section
variable {prog : Program} {w : World} {A : Around} {E : Value → Shared → Prop} {s : Shared}
theorem min_two_data {a b : Value} {x y : PyData} {as bs : List Addr} {Q : Value → Shared → Prop} (hh : A.handled = none) (ra : Reads s.heap a x as) (rb : Reads s.heap b y bs) (ha : AlikeAll [x, y]) (hu : A.units + 1 + PyData.depthAll [x, y] < cLine)
    (h : ∀ h' tk, (∀ c o, s.heap.get? c = some o → h'.get? c = some o) → Q (if dataLt y x = true then b else a) { s with heap := h', toks := tk }) :
    wpAny (model prog w) A (call (.builtin "min") [a, b]) Q E s := by
  have hname : (toString "min" ++ toString ".loop" : String) = "min.loop" := by decide
  refine call_function_tree PySem.F.kind_min PySem.F.plain_min PySem.F.entry_min (PySem.F.args_min2 _ _) ?_
  show wpAny _ A.in1 (Builtin.Builtins.bindParams "min" ["key", "default"] 0 ⟨[], []⟩ >>= _) _ _ s
  refine wpAny_bind (wpAny_of_eq (show Builtin.Builtins.bindParams "min" ["key", "default"] 0 ⟨[], []⟩ = pure [none, none] from rfl) ?_)
  show wpAny _ A.in1 (newTuple [a, b] >>= _) _ _ s
  refine wpAny_bind (wpAny_newObj_type ?_)
  let s1 : Shared := { s with heap := s.heap.push { cls := .type "tuple", data := .seq #[a, b] } }
  have hT : s1.heap.IsTuple s.heap.objs.size #[a, b] := ⟨_, Heap.get?_push_size _ rfl, rfl, 0, rfl⟩
  have k1 : ∀ c o, s.heap.get? c = some o → s1.heap.get? c = some o := fun c o e => Heap.get?_push_of_some _ e
  have hr : ReadsAll s1.heap (#[a, b] : Array Value).toList [x, y] (as ++ (bs ++ [])) := .cons (reads_keeps k1 ra) (.cons (reads_keeps k1 rb) .nil)
  have hit : wpAny (model prog w) A.in1 (pyIter (.ref s.heap.objs.size)) (fun it s₂ => ∃ I fp wr G n P St H bt, it = .ref I ∧ WalksS prog w A.in1 I fp wr G n P St ∧ St 0 s₂ ∧ (∀ b ∈ fp, b < s₂.heap.objs.size) ∧ 0 < n ∧
      (∀ b o, H.get? b = some o → b ∉ wr) ∧ (∀ b o, H.get? b = some o → s₂.heap.get? b = some o) ∧ CmpIn prog w A.in1 .Lt H P bt ∧ ∀ v s', P (argBest bt (n - 1)) v → Moved wr G s₂ s' → Q v s') E s1 := by
    refine iter_tupleW (A := A.in1) hh hT fun s₂ e W st hfp hw hk => ?_
    refine ⟨_, _, _, _, _, _, _, s1.heap, _, rfl, W, st, hfp, (show 0 < 2 by decide), hw, hk, cmpIn_lt (s := s1) (A := A.in1) hr ha (by show A.units + 1 + _ < _; exact hu), fun v s' hP m => ?_⟩
    obtain ⟨h', tk, rfl, hk'⟩ := moved_old e rfl m
    have := h h' tk fun c o e => hk' c o (k1 c o e)
    have hv : v = if dataLt y x = true then b else a := by
      have e2 : argBest (fun i j => dataLt ([x, y].getD i .none) ([x, y].getD j .none)) 1 = if dataLt y x = true then 1 else 0 := rfl
      have hP' : (#[a, b] : Array Value)[argBest (fun i j => dataLt ([x, y].getD i .none) ([x, y].getD j .none)) 1]? = some v := hP
      rw [e2] at hP'
      by_cases hc : dataLt y x = true
      · rw [if_pos hc] at hP' ⊢
        exact (Option.some.inj hP').symm
      · rw [if_neg hc] at hP' ⊢
        exact (Option.some.inj hP').symm
    rw [hv]
    exact this
  refine wpAny_bind (wpAny_mono hit (fun it s₂ h₂ => ?_) fun _ _ e => e)
  obtain ⟨I, fp, wr, G, n, P, St, H, bt, rfl, W, hst, hfp, hn, hw, hkeep, hcmp, hQ⟩ := h₂
  refine wpAny_bind (wpAny_newObj_type ?_)
  have hSf : s₂.heap.objs.size ∉ fp := fun hm => Nat.lt_irrefl _ (hfp _ hm)
  rw [hname]
  refine wpAny_pure ⟨plainId_quiet PySem.F.plain_min_loop _, codeAny_min_loop_firstH W H hw bt hcmp s₂.heap.objs.size hSf (fresh_in hkeep) _ hn (fun b o e => Heap.get?_push_of_some _ (hkeep b o e)) (W.frame 0 s₂ _ s₂.toks hst (Nat.le_refl _) fun b _ o e => Heap.get?_push_of_some _ e) (Heap.get?_push_size _ rfl) fun v s' hP hm => ?_⟩
  exact hQ v s' hP (Moved.drop_new (tk := s₂.toks) hm (Nat.le_refl _))
end
end PySem.W
namespace L3
open PySem PySem.Spec PyProof.Rows L2
section
variable {X : Cx} {W : Wn} {T : FT} {a b : Expr} {ca cb : CE} {pos : Pos}
/-- min(a, b): two whole numbers, or two tuples of data -/
def rMin (K : PySem.W.Frag) : List V → Hp → VK → Prop := fun xs H Q => ∃ A0 A B0 B dx dy x y d, xs = [x, y] ∧ RepT K H A0 A dx x ∧ RepT K H B0 B dy y ∧ op2 .min2 dx dy = .ok d ∧ ∀ v, ((∃ i, d = .int i ∧ v = .int i) ∨ (∃ t, d = .tuple t ∧ (Rep K H A d v ∨ Rep K H B d v))) → Q v H
theorem callM_min (hc : X.calm = true) (hu : X.A.units + 80 < cLine) : CallR X (.builtin "min") (rMin X.K) := by
  intro pins s σ H xs us Q I r ⟨A0, A, B0, B, dx, dy, x, y, d, ex, r1, r2, e, q⟩
  subst ex
  cases dx <;> cases dy <;> first | (simp [op2] at e; done) | skip
  · rename_i i j
    cases r1; cases r2; simp only [op2] at e; cases e
    exact call_min2 hc pins s σ H _ us Q I r ⟨_, _, rfl, q _ (.inl ⟨_, rfl, rfl⟩)⟩
  · rename_i t t'
    simp only [op2] at e
    split at e
    · rename_i hm
      unfold minOk at hm
      simp only [Bool.and_eq_true] at hm
      obtain ⟨⟨⟨m1, m2⟩, m3⟩, m4⟩ := hm
      obtain ⟨h1, h2, h3, h4⟩ := ordOk_of m1
      obtain ⟨g1, _, _, _⟩ := ordOk_of m2
      obtain ⟨g2, _, _, _⟩ := ordOk_of m3
      obtain ⟨g3, _, _, _⟩ := ordOk_of m4
      obtain ⟨u, u', rfl, rx, ry⟩ := vals2 r
      obtain ⟨as, q1⟩ := Dp.reads I _ x u (r1.dp (SeqAt.canLay_of_shaped h3)) rx
      obtain ⟨bs, q2⟩ := Dp.reads I _ y u' (r2.dp (SeqAt.canLay_of_shaped h4)) ry
      have d1 := SeqAt.depth_of_shaped h3
      have d2 := SeqAt.depth_of_shaped h4
      refine PySem.W.min_two_data (I.ok.hd hc) q1 q2 ⟨fun z hz z' hz' => ?_, fun z hz => ?_⟩ ?_ fun h' tk k => ?_
      · simp only [List.mem_cons, List.not_mem_nil, or_false] at hz hz'
        rcases hz with rfl | rfl <;> rcases hz' with rfl | rfl
        · exact g2
        · exact h1
        · exact g1
        · exact g3
      · simp only [List.mem_cons, List.not_mem_nil, or_false] at hz
        rcases hz with rfl | rfl <;> (intro z; cases z)
      · show X.A.units + 1 + max (PyData.depth (.tuple t)) (max (PyData.depth (.tuple t')) 0) < cLine
        omega
      · have hk : Inv X pins σ H { s with heap := h', toks := tk } := I.kept k
        by_cases hl : W.dataLt (.tuple t') (.tuple t) = true
        · rw [if_pos hl] at e ⊢
          cases e
          exact ⟨y, H, hk, ry, q _ (.inr ⟨_, rfl, .inr r2⟩)⟩
        · rw [if_neg hl] at e ⊢
          cases e
          exact ⟨x, H, hk, rx, q _ (.inr ⟨_, rfl, .inl r1⟩)⟩
    · cases e
theorem ve_min2 {p : Pos} (hc : X.calm = true) (hu : X.A.units + 80 < cLine) (hg : Gl X "min") (hm : X.mg "min" = none) (hdb : (("min" : Str) == ("__debug__" : Str)) = false) (hn : notStar a = true) (hn2 : notStar b = true)
    (ha : PE X a (tE X.K W T ca)) (hb : PE X b (tE X.K W T cb)) : PE X (.Call (.Name "min" p) [a, b] [] pos) (tE X.K W T (.b .min2 ca cb)) :=
  PE.imp (pe_callB (callM_min hc hu) hg hm rfl (pa_cons ha (pa_cons hb pa_nil (star_cons hn2)) (star_cons hn)) (by decide) hdb (star_cons hn) (star_none (by simp [hn2]))) fun pins s σ H Q I ⟨A, H₀, env, ex, S, p⟩ => by
    simp only [ev, post_bind] at p
    refine part1 S p fun dx x H1 p1 e1 S1 r1 => part1 S1 (p1.ext e1) fun dy y H2 p2 e2 S2 r2 => ?_
    obtain ⟨d, ho, q⟩ := p2.ok_of fun _ => op2_ne
    refine ⟨_, _, _, _, dx, dy, x, y, d, rfl, r1.same e2, r2, ho, fun v hv => ?_⟩
    rcases hv with ⟨i, rfl, rfl⟩ | ⟨t, rfl, hv⟩
    · exact q _ _ (e1.trans e2) (repT_atom rfl) fun z => by cases z
    · refine q _ _ (e1.trans e2) ?_ fun z => by cases z
      show Rep X.K H2 (ExM ex A (lk1 ca ++ lk1 cb)) (.tuple t) v
      rcases hv with hv | hv
      · exact hv.anti (ExM.sub fun i h => List.mem_append_left _ h)
      · exact hv.anti (ExM.sub fun i h => List.mem_append_right _ h)
end
end L3

set_option Elab.async false
set_option linter.all false
set_option maxRecDepth 100000
set_option maxHeartbeats 4000000
/-! the looks of the translator are right -/
namespace L3
open PySem PySem.Spec PyProof.Rows L2

section
variable {X : Cx} {W : Wn} {T : FT} {tc : Tc}
theorem tvOk_ok {e : Expr} {env : PySem.Env} (h : tvOk e = true) (whole : Sem Value) : isTrue e env whole = (do let v ← whole; standAt e.pos; holding [v] (truthy v)) := by
  cases e <;> first | (cases h; done) | rfl
theorem notSet_ok {op : CmpOp} {e : Expr} (h : notSet e = true) : behindInMarks op e = false := by
  cases e <;> first | (cases h; done) | rfl
theorem notSet_f {e : Expr} {env : PySem.Env} (h : notSet e = true) (x : Value) : foldedSetIterable e env x = pure x := by
  cases e <;> first | (cases h; done) | rfl
theorem notComp_ok {e : Expr} {t : Option Expr} {l : Nat} {env : PySem.Env} (h : notComp e = true) : swapsWith e t l env = pure false := by
  cases e <;> first | (cases h; done) | rfl
theorem cn_ok {k : Const} {j : Nat} {d : D} {pos : Pos} (h : cnD k = some d) : PE X (.Constant k j pos) (tE X.K W T (.cn d)) := by
  unfold cnD at h
  split at h <;> cases h
  · exact ve_cn rfl pe_non
  · exact ve_cn rfl pe_bl
  · exact ve_cn rfl pe_int
  · exact ve_cn rfl pe_str

theorem eqD_at {x y d : D} (h : eqD x y = .ok d) : atom d = true := by
  rcases eqD_cases h with ⟨a, b, rfl, rfl, rfl⟩ | ⟨a, b, rfl, rfl, rfl⟩ | ⟨a, b, rfl, rfl, rfl⟩ | ⟨_, _, rfl⟩ <;> rfl
theorem isD_at {x y d : D} (h : isD x y = .ok d) : atom d = true := by
  rcases isD_cases h with ⟨rfl, b, rfl, _⟩ | ⟨a, b, rfl, rfl, rfl⟩ <;> rfl
theorem inD_at {x y d : D} (h : inD x y = .ok d) : atom d = true := by
  obtain ⟨_, _, _, _, rfl⟩ := inD_cases h; rfl
theorem ltD_at {x y d : D} (h : ltD x y = .ok d) : atom d = true := by
  unfold ltD at h; split at h <;> (try split at h) <;> first | (cases h; done) | (cases h; rfl)
theorem leD_at {x y d : D} (h : leD x y = .ok d) : atom d = true := by
  unfold leD at h; split at h <;> (try split at h) <;> first | (cases h; done) | (cases h; rfl)
theorem gtD_at {x y d : D} (h : gtD x y = .ok d) : atom d = true := by
  unfold gtD at h; split at h <;> (try split at h) <;> first | (cases h; done) | (cases h; rfl)
theorem geD_at {x y d : D} (h : geD x y = .ok d) : atom d = true := by
  unfold geD at h; split at h <;> (try split at h) <;> first | (cases h; done) | (cases h; rfl)
theorem notR_at {r : R D} {d : D} (h : notR r = .ok d) : atom d = true := by
  obtain ⟨b, _, rfl⟩ := notR_ok h; rfl
/-- operators that tell an atom -/
def atB : B2 → Bool
  | .add => false | .idx => false | .rep => false | .min2 => false
  | _ => true
theorem op2_at {o : B2} (ho : atB o = true) : ∀ x y d, op2 o x y = .ok d → atom d = true := by
  intro x y d h
  cases o <;> first | (cases ho; done) | skip
  all_goals first
    | exact eqD_at h | exact notR_at h | exact ltD_at h | exact leD_at h | exact gtD_at h | exact geD_at h | exact isD_at h | exact inD_at h
    | (cases x <;> cases y <;> first | (simp only [op2] at h; cases h; done) | (simp only [op2] at h; cases h; rfl) | (simp only [op2] at h; split at h <;> first | (cases h; done) | (cases h; rfl)))
theorem opB_ok {op : Operator} {o : B2} {a b : Expr} {ca cb : CE} {pos : Pos} (h : opB op = some o) (ha : PE X a (tE X.K W T ca)) (hb : PE X b (tE X.K W T cb)) : PE X (.BinOp a op b pos) (tE X.K W T (.b o ca cb)) := by
  cases op <;> cases h
  · exact ve_add ha hb
  · exact ve_opA opA_sub (op2_at rfl) ha hb
  · exact ve_opA opA_mul (op2_at rfl) ha hb
  · exact ve_opA opA_mod (op2_at rfl) ha hb
  · exact ve_opA opA_pow (op2_at rfl) ha hb
  · exact ve_opA opA_shl (op2_at rfl) ha hb
  · exact ve_opA opA_shr (op2_at rfl) ha hb
  · exact ve_opA opA_bor (op2_at rfl) ha hb
  · exact ve_opA opA_bxor (op2_at rfl) ha hb
  · exact ve_opA opA_band (op2_at rfl) ha hb
  · exact ve_opA opA_fdiv (op2_at rfl) ha hb
theorem binop_ok {op : Operator} {o : B2} {a b : Expr} {ca cb : CE} {pos : Pos} (h : opB op = some o) (ha : PE X a (tE X.K W T ca)) (hb : PE X b (tE X.K W T cb)) : PE X (.BinOp a op b pos) (tE X.K W T (.b (repB op ca o) ca cb)) := by
  unfold repB
  split
  · exact ve_rep (.inl rfl) ha hb
  · exact ve_rep (.inr ⟨_, rfl⟩) ha hb
  · exact opB_ok h ha hb
theorem opC_at {op : CmpOp} {o : B2} (h : opC op = some o) : atB o = true := by cases op <;> cases h <;> rfl
theorem opC_ok {op : CmpOp} {o : B2} (hu : X.A.units + 65 < cLine) (h : opC op = some o) : OpR X (compareOp op) (rA X.K o) := by
  cases op <;> cases h
  · exact opA_eq (Nat.lt_of_succ_lt hu)
  · exact opA_ne (Nat.lt_of_succ_lt hu)
  · exact opA_lt (Nat.lt_of_succ_lt hu)
  · exact opA_le (Nat.lt_of_succ_lt hu)
  · exact opA_gt (Nat.lt_of_succ_lt hu)
  · exact opA_ge (Nat.lt_of_succ_lt hu)
  · exact opA_is
  · exact opA_isnt
  · exact opA_in hu
  · exact opA_nin hu
theorem b1_ok (C : CxOk X W T tc) {f : Str} {u : U1} {c : Bool} {p pos : Pos} {a : Expr} {ca : CE} (h : b1Of f = some (u, c)) (hb : tc.blt f = true) (hn : notStar a = true) (ha : PE X a (tE X.K W T ca)) : PE X (.Call (.Name f p) [a] [] pos) (tE X.K W T (.u u ca)) := by
  obtain ⟨g, m, d, n⟩ := C.blt hb
  unfold b1Of at h
  split at h
  · rename_i e; cases h; subst e; exact ve_b1 callA_len (fun z => by cases z) g m rfl n d hn ha
  split at h
  · rename_i e; cases h; subst e; exact ve_b1 (callA_all C.calm) (fun z => by cases z) g m rfl n d hn ha
  split at h
  · rename_i e; cases h; subst e; exact ve_b1 (callA_any C.calm) (fun z => by cases z) g m rfl n d hn ha
  split at h
  · rename_i e; cases h; subst e; exact ve_b1 (callA_sum C.calm) (fun z => by cases z) g m rfl n d hn ha
  split at h
  · rename_i e; cases h; subst e; exact ve_b1 (callA_sorted C.units) (fun _ => rfl) g m rfl n d hn ha
  split at h
  · rename_i e; cases h; subst e; exact ve_t1 callA_tuple (fun z => by cases z) g m rfl n d hn ha
  split at h
  · rename_i e; cases h; subst e; exact ve_t1 callA_list (fun _ => rfl) g m rfl n d hn ha
  split at h
  · rename_i e; cases h; subst e; exact ve_b1 (callA_maxL C.calm C.units) (fun z => by cases z) g m rfl n d hn ha
  split at h
  · rename_i e; cases h; subst e; exact ve_b1 (callA_minL C.calm C.units) (fun z => by cases z) g m rfl n d hn ha
  split at h
  · rename_i e; cases h; subst e; exact ve_t1 callA_int (fun z => by cases z) g m rfl n d hn ha
  split at h
  · rename_i e; cases h; subst e; exact ve_t1 callA_str (fun z => by cases z) g m rfl n d hn ha
  · cases h
theorem sset_ok (C : CxOk X W T tc) {f : Str} {p pos : Pos} {a e : Expr} {ce : CE} {u : U1} (h : ssetOf f a = some (u, e)) (hb : tc.blt f = true) (hb2 : tc.blt "set" = true) (hn : notStar e = true) (he : PE X e (tE X.K W T ce)) : PE X (.Call (.Name f p) [a] [] pos) (tE X.K W T (.u u ce)) := by
  obtain ⟨g, m, d, n⟩ := C.blt hb
  obtain ⟨g2, m2, d2, n2⟩ := C.blt hb2
  unfold ssetOf at h
  split at h
  · split at h
    · rename_i hh
      cases h
      obtain ⟨e1, e2⟩ := hh
      subst e1 e2
      exact ve_sset C.calm C.units g m g2 m2 hn he
    · split at h
      · rename_i hh
        cases h
        obtain ⟨e1, e2⟩ := hh
        subst e1 e2
        exact ve_lset C.calm g m g2 m2 hn he
      · cases h
  · cases h
theorem rg_ok (C : CxOk X W T tc) {f : Str} {p pos : Pos} {a : Expr} {ci : CI} {t : Bool} (h : rgOf f a = some t) (hb : tc.blt f = true) (hn : notStar a = true) (he : PRg X a (tRgs W X.K T ci)) : PE X (.Call (.Name f p) [a] [] pos) (tE X.K W T (.rg t ci)) := by
  obtain ⟨g, m, d, n⟩ := C.blt hb
  unfold rgOf at h
  split at h
  · split at h
    · split at h
      · rename_i e; cases h; subst e; exact ve_rgL C.calm g m hn he
      · split at h
        · rename_i e; cases h; subst e; exact ve_rgT C.calm g m hn he
        · cases h
    · cases h
  · cases h
theorem b2_ok (C : CxOk X W T tc) {f : Str} {o : B2} {p pos : Pos} {a b : Expr} {ca cb : CE} (h : b2Of f = some o) (hb : tc.blt f = true) (hn : notStar a = true) (hn2 : notStar b = true) (ha : PE X a (tE X.K W T ca)) (hb' : PE X b (tE X.K W T cb)) :
    PE X (.Call (.Name f p) [a, b] [] pos) (tE X.K W T (.b o ca cb)) := by
  obtain ⟨g, m, d, n⟩ := C.blt hb
  unfold b2Of at h
  split at h
  · rename_i e; cases h; subst e; exact ve_min2 C.calm (by have := C.units; omega) g m d hn hn2 ha hb'
  split at h
  · rename_i e; cases h; subst e; exact ve_b2 (callA_max2 C.calm) (op2_at rfl) g m rfl n d hn hn2 ha hb'
  · cases h
theorem isi_ok (C : CxOk X W T tc) {f y : Str} {t : Ty} {p p2 pos : Pos} {a : Expr} {ca : CE} (hf : f = "isinstance") (h : tyOf y = some t) (hb : tc.blt f = true) (hb2 : tc.blt y = true) (hn : notStar a = true) (ha : PE X a (tE X.K W T ca)) :
    PE X (.Call (.Name f p) [a, .Name y p2] [] pos) (tE X.K W T (.isi ca t)) := by
  obtain ⟨g, m, d, n⟩ := C.blt hb
  obtain ⟨g2, m2, d2, n2⟩ := C.blt hb2
  subst hf
  unfold tyOf at h
  split at h
  · rename_i e; cases h; subst e; exact ve_isi g m rfl n d g2 m2 rfl n2 d2 hn ha
  split at h
  · rename_i e; cases h; subst e; exact ve_isi g m rfl n d g2 m2 rfl n2 d2 hn ha
  split at h
  · rename_i e; cases h; subst e; exact ve_isi g m rfl n d g2 m2 rfl n2 d2 hn ha
  split at h
  · rename_i e; cases h; subst e; exact ve_isi g m rfl n d g2 m2 rfl n2 d2 hn ha
  split at h
  · rename_i e; cases h; subst e; exact ve_isi g m rfl n d g2 m2 rfl n2 d2 hn ha
  split at h
  · rename_i e; cases h; subst e; exact ve_isi g m rfl n d g2 m2 rfl n2 d2 hn ha
  · cases h
end
end L3

set_option Elab.async false
set_option linter.all false
set_option maxRecDepth 100000
set_option maxHeartbeats 4000000
/-! xs[::-1] of a list or a tuple -/
namespace HT
open PySem PySem.Spec PyProof.Rows
section
variable {prog : Program} {w : World} {A : Around} {E : Value → Shared → Prop} {s : Shared}
theorem sliceApplied_rev {sl : Addr} {vl vu vs : Value} {n : Nat} {Q : Int × Int × Nat → Shared → Prop} (hs : s.heap.IsSliceOf sl vl vu vs) (pl : IsPart vl none) (pu : IsPart vu none) (ps : IsPart vs (some (-1)))
    (h : Q ((n : Int) - 1, -1, n) s) : wpAny (model prog w) A (Builtin.Slice.sliceApplied (.ref sl) (pure (n : Int))) Q E s := by
  obtain ⟨os, hos, hcs, hds⟩ := id hs
  unfold Builtin.Slice.sliceApplied Builtin.Slice.sliceFields
  refine wpAny_bind (wpAny_bind (wpAny_field hos hds (x := vl) rfl (wpAny_bind (wpAny_field hos hds (x := vu) rfl (wpAny_bind (wpAny_field hos hds (x := vs) rfl (wpAny_pure ?_)))))))
  refine wpAny_bind (slicePart_ ps ?_)
  show wpAny _ _ (if ((-1 : Int) == 0) = true then _ else _) _ _ s
  rw [if_neg (by decide)]
  refine wpAny_bind (slicePart_ pl (wpAny_bind (slicePart_ pu (wpAny_bind (wpAny_pure ?_)))))
  have hp : Builtin.Slice.slicePlaces ((n : Int) - 1) (-1) (-1) = n := by
    unfold Builtin.Slice.slicePlaces
    have h1 : ¬ ((-1 : Int) > 0) := by omega
    have h2 : (-(-1) : Int) = 1 := by decide
    simp only [h1, if_false, h2, Int.ediv_one]
    split <;> omega
  show wpAny _ _ (pure ((n : Int) - 1, (-1 : Int), Builtin.Slice.slicePlaces ((n : Int) - 1) (-1) (-1))) _ _ s
  rw [hp]
  exact wpAny_pure h
theorem pick_rev (xs : Array Value) : ((List.range xs.size).filterMap fun (m : Nat) => xs[(((xs.size : Int) - 1) + (m : Int) * (-1)).toNat]?).toArray = xs.toList.reverse.toArray := by
  have e : (List.range xs.size).filterMap (fun (m : Nat) => xs[(((xs.size : Int) - 1) + (m : Int) * (-1)).toNat]?) = ((List.range xs.size).map fun k => xs.size - 1 - k).filterMap (xs[·]?) := by
    rw [List.filterMap_map]
    congr 1
    funext m
    have : (((xs.size : Int) - 1) + (m : Int) * (-1)).toNat = xs.size - 1 - m := by omega
    rw [this]
    rfl
  rw [e, PySem.W.krv_range, List.filterMap_reverse, PySem.W.krv_all]
theorem getItem_tuple_rev {t sl : Addr} {items : Array Value} {vl vu vs : Value} {Q : Value → Shared → Prop} (ht : IsTup s.heap t items) (hs : s.heap.IsSliceOf sl vl vu vs) (pl : IsPart vl none) (pu : IsPart vu none) (ps : IsPart vs (some (-1)))
    (h : Q (.ref s.heap.objs.size) { s with heap := s.heap.push { cls := .type "tuple", data := .seq items.toList.reverse.toArray } })
    (hsz : items.size ≤ sizeLine) : wpAny (model prog w) A (getItem (.ref t) (.ref sl)) Q E s := by
  have htake : sizeOk (.seq items.toList.reverse.toArray) := by
    show items.toList.reverse.toArray.size ≤ sizeLine
    rw [List.size_toArray, List.length_reverse, Array.length_toList]
    omega
  obtain ⟨os, hos, hcs, hds⟩ := id hs
  have hTs : s.TypeIs (.ref sl) "slice" := ⟨os, hos, hcs⟩
  unfold getItem
  try with_reducible refine wpAny_holding ?_
  first | refine wpAny_bind (wpAny_pure ?_) | skip
  refine wpAny_bind (wpAny_sequenceKey ht.typeIs (by decide) ?_)
  refine wpAny_bind (wpAny_callSpecial?_slot (name := Str.ofString "__getitem__") ht.typeIs PyProof.Rows.slot_tuple_getitem
    (wpAny_call_entry PyProof.Rows.slot_tuple_getitem ht.typeIs entry_tuple_getitem ?_ (args_tuple_getitem _ _)))
  show wpAny _ _ (Builtin.Tuple.tupleItemsOf (.ref t) >>= _) _ _ s
  refine wpAny_bind (tupleItemsOf_ ht ?_)
  refine wpAny_bind (wpAny_typeOf hTs ?_)
  rw [if_pos (by decide)]
  refine wpAny_bind (sliceApplied_rev hs pl pu ps ?_)
  have hno : ¬ ((((items.size : Int) - 1) == 0 && (-1 : Int) == 1 && items.size == items.size) = true) := by
    intro q
    rw [Bool.and_eq_true, Bool.and_eq_true] at q
    exact absurd q.1.2 (by decide)
  show wpAny _ _ (if (((items.size : Int) - 1) == 0 && (-1 : Int) == 1 && items.size == items.size) = true then _ else _) _ _ s
  rw [if_neg hno, pick_rev]
  first
    | exact wpAny_bind (m := Builtin.Tuple.tupleExact _) (wpAny_newObj_type (wpAny_pure ⟨_, rfl, wpAny_pure h⟩) htake)
    | exact wpAny_bind (m := Builtin.Tuple.tupleExact _) (wpAny_newObj_type (wpAny_bind (wpAny_pure (wpAny_pure ⟨_, rfl, wpAny_pure h⟩))) htake)
    | exact wpAny_bind (wpAny_bind (m := Builtin.Tuple.tupleExact _) (wpAny_newObj_type (wpAny_pure (wpAny_pure ⟨_, rfl, wpAny_pure h⟩)) htake))
    | exact wpAny_bind (wpAny_bind (m := Builtin.Tuple.tupleExact _) (wpAny_newObj_type (wpAny_pure ⟨_, rfl, wpAny_pure h⟩) htake))
theorem sliceApplied_revT {sl : Addr} {vl vu vs : Value} {n : Nat} {Q : Int × Int × Nat → Shared → Prop} (hs : s.heap.IsSliceOf sl vl vu vs) (pl : IsPart vl none) (pu : IsPart vu (some 0)) (ps : IsPart vs (some (-1)))
    (h : Q ((n : Int) - 1, -1, n - 1) s) : wpAny (model prog w) A (Builtin.Slice.sliceApplied (.ref sl) (pure (n : Int))) Q E s := by
  obtain ⟨os, hos, hcs, hds⟩ := id hs
  unfold Builtin.Slice.sliceApplied Builtin.Slice.sliceFields
  refine wpAny_bind (wpAny_bind (wpAny_field hos hds (x := vl) rfl (wpAny_bind (wpAny_field hos hds (x := vu) rfl (wpAny_bind (wpAny_field hos hds (x := vs) rfl (wpAny_pure ?_)))))))
  refine wpAny_bind (slicePart_ ps ?_)
  show wpAny _ _ (if ((-1 : Int) == 0) = true then _ else _) _ _ s
  rw [if_neg (by decide)]
  refine wpAny_bind (slicePart_ pl (wpAny_bind (slicePart_ pu (wpAny_bind (wpAny_pure ?_)))))
  have hp : Builtin.Slice.slicePlaces ((n : Int) - 1) (min 0 ((n : Int) - 1)) (-1) = n - 1 := by
    unfold Builtin.Slice.slicePlaces
    have h1 : ¬ ((-1 : Int) > 0) := by omega
    have h2 : (-(-1) : Int) = 1 := by decide
    simp only [h1, if_false, h2, Int.ediv_one]
    split <;> omega
  show wpAny _ _ (pure ((n : Int) - 1, (-1 : Int), Builtin.Slice.slicePlaces ((n : Int) - 1) (min 0 ((n : Int) - 1)) (-1))) _ _ s
  rw [hp]
  exact wpAny_pure h
theorem fm_congr {α β : Type} {f g : α → Option β} : ∀ {l : List α}, (∀ x ∈ l, f x = g x) → l.filterMap f = l.filterMap g
  | [], _ => rfl
  | x :: l, h => by
    rw [List.filterMap_cons, List.filterMap_cons, h x List.mem_cons_self, fm_congr fun y hy => h y (List.mem_cons_of_mem _ hy)]
theorem pick_revT (xs : Array Value) : ((List.range (xs.size - 1)).filterMap fun (m : Nat) => xs[(((xs.size : Int) - 1) + (m : Int) * (-1)).toNat]?).toArray = (xs.toList.drop 1).reverse.toArray := by
  have e : (List.range (xs.size - 1)).filterMap (fun (m : Nat) => xs[(((xs.size : Int) - 1) + (m : Int) * (-1)).toNat]?) = (((List.range (xs.size - 1)).map fun k => (xs.size - 1) - 1 - k).map (1 + ·)).filterMap (xs[·]?) := by
    rw [List.map_map, List.filterMap_map]
    apply fm_congr
    intro m hm
    have hm := List.mem_range.mp hm
    have : (((xs.size : Int) - 1) + (m : Int) * (-1)).toNat = 1 + ((xs.size - 1) - 1 - m) := by omega
    rw [this]
    rfl
  rw [e, PySem.W.krv_range, List.map_reverse, List.filterMap_reverse, pick_run, List.take_of_length_le (by rw [List.length_drop, Array.length_toList]; exact Nat.le_refl _)]
theorem getItem_tuple_revT {t sl : Addr} {items : Array Value} {vl vu vs : Value} {Q : Value → Shared → Prop} (ht : IsTup s.heap t items) (hs : s.heap.IsSliceOf sl vl vu vs) (pl : IsPart vl none) (pu : IsPart vu (some 0)) (ps : IsPart vs (some (-1)))
    (h : Q (.ref s.heap.objs.size) { s with heap := s.heap.push { cls := .type "tuple", data := .seq (items.toList.drop 1).reverse.toArray } })
    (hsz : items.size ≤ sizeLine) : wpAny (model prog w) A (getItem (.ref t) (.ref sl)) Q E s := by
  have htake : sizeOk (.seq (items.toList.drop 1).reverse.toArray) := by
    show (items.toList.drop 1).reverse.toArray.size ≤ sizeLine
    rw [List.size_toArray, List.length_reverse, List.length_drop, Array.length_toList]
    omega
  obtain ⟨os, hos, hcs, hds⟩ := id hs
  have hTs : s.TypeIs (.ref sl) "slice" := ⟨os, hos, hcs⟩
  unfold getItem
  try with_reducible refine wpAny_holding ?_
  first | refine wpAny_bind (wpAny_pure ?_) | skip
  refine wpAny_bind (wpAny_sequenceKey ht.typeIs (by decide) ?_)
  refine wpAny_bind (wpAny_callSpecial?_slot (name := Str.ofString "__getitem__") ht.typeIs PyProof.Rows.slot_tuple_getitem
    (wpAny_call_entry PyProof.Rows.slot_tuple_getitem ht.typeIs entry_tuple_getitem ?_ (args_tuple_getitem _ _)))
  show wpAny _ _ (Builtin.Tuple.tupleItemsOf (.ref t) >>= _) _ _ s
  refine wpAny_bind (tupleItemsOf_ ht ?_)
  refine wpAny_bind (wpAny_typeOf hTs ?_)
  rw [if_pos (by decide)]
  refine wpAny_bind (sliceApplied_revT hs pl pu ps ?_)
  have hno : ¬ ((((items.size : Int) - 1) == 0 && (-1 : Int) == 1 && (items.size - 1) == items.size) = true) := by
    intro q
    rw [Bool.and_eq_true, Bool.and_eq_true] at q
    exact absurd q.1.2 (by decide)
  show wpAny _ _ (if (((items.size : Int) - 1) == 0 && (-1 : Int) == 1 && (items.size - 1) == items.size) = true then _ else _) _ _ s
  rw [if_neg hno, pick_revT]
  first
    | exact wpAny_bind (m := Builtin.Tuple.tupleExact _) (wpAny_newObj_type (wpAny_pure ⟨_, rfl, wpAny_pure h⟩) htake)
    | exact wpAny_bind (m := Builtin.Tuple.tupleExact _) (wpAny_newObj_type (wpAny_bind (wpAny_pure (wpAny_pure ⟨_, rfl, wpAny_pure h⟩))) htake)
    | exact wpAny_bind (wpAny_bind (m := Builtin.Tuple.tupleExact _) (wpAny_newObj_type (wpAny_pure (wpAny_pure ⟨_, rfl, wpAny_pure h⟩)) htake))
    | exact wpAny_bind (wpAny_bind (m := Builtin.Tuple.tupleExact _) (wpAny_newObj_type (wpAny_pure ⟨_, rfl, wpAny_pure h⟩) htake))
end
end HT
namespace L3
open PySem PySem.Spec PyProof.Rows L2
section
variable {X : Cx} {W : Wn} {T : FT}
def tRevA (K : PySem.W.Frag) (te : TE) : TE := fun σ H Q => te σ H fun x H1 => ∃ a xs, x = .ref a ∧ ((SqL K H1 a xs ∧ ∀ p, H1 p = none → Q (.ref p) (upd H1 p (.lst xs.reverse))) ∨ (SqT K H1 a xs ∧ ∀ p, H1 p = none → Q (.ref p) (upd H1 p (.tup xs.reverse))))
theorem pe_rev {e : Expr} {te : TE} {k : Nat} {p1 p2 p3 pos : Pos} (he : PE X e te) : PE X (.Subscript e (.Slice none none (some (.UnaryOp .USub (.Constant (.int 1) k p1) p2)) p3) pos) (tRevA X.K te) := by
  refine ⟨fun pins s σ H Q I h => ?_⟩
  refine Subscript_ (thn (he.run pins s σ H _ I h) fun v s1 ⟨x, H1, I1, r1, q1⟩ => ?_)
  obtain ⟨a, xs, ex, q⟩ := q1
  subst ex
  cases r1
  have hst : PO X (some (.UnaryOp .USub (.Constant (.int 1) k p1) p2)) (tPart (tUn (rU fun i => .int (-i)) (tC (.int 1)))) := po_some (pe_un un_neg pe_int)
  refine wpAny_Slice (thn (po_none.run pins s1 σ H1 (fun o H2 => o = none ∧ H2 = H1) I1 ⟨rfl, rfl⟩) fun vl s2 ⟨l, H2, I2, pl, el, e2⟩ => ?_)
  subst el e2
  refine thn (po_none.run pins s2 σ H2 (fun o H3 => o = none ∧ H3 = H2) I2 ⟨rfl, rfl⟩) fun vu s3 ⟨u, H3, I3, pu, eu, e3⟩ => ?_
  subst eu e3
  refine thn (hst.run pins s3 σ H3 (fun o H4 => o = some (-1) ∧ H4 = H3) I3 ⟨1, rfl, -1, rfl, rfl, rfl⟩) fun vs s4 ⟨o, H4, I4, ps, eo, e4⟩ => ?_
  subst eo e4
  have I5 : Inv X pins σ H4 { s4 with heap := s4.heap.push { cls := .type "slice", data := .fields #[vl, vu, vs] } } := I4.kept (t' := s4.toks) fun b ob q => Heap.get?_push_of_some _ q
  show wpAny (model X.prog X.w) X.A (subscriptTail e (.Slice none none (some (.UnaryOp .USub (.Constant (.int 1) k p1) p2)) p3) (.ref a) (.ref s4.heap.objs.size)) (EP X pins σ Q) X.xe { s4 with heap := s4.heap.push { cls := .type "slice", data := .fields #[vl, vu, vs] } }
  rcases q with ⟨hx, q⟩ | ⟨hx, q⟩
  · obtain ⟨its, r, ht, hz⟩ := I5.list hx
    have hlen := r.length
    refine tail_any (ops := [.ref a, .ref s4.heap.objs.size]) ht.isList.typeIs (PySem.slot_list_getitem.lookup) ?_ (by with_unfolding_all rfl)
    refine wpAny_getItem_list_slice ht.isList (Heap.IsSliceOf.new _ vl vu vs) pl pu ps (by decide) ?_ (by rw [List.size_toArray]; omega)
    rw [PySem.W.krv_pick]
    refine ⟨.ref _, _, I5.laid (t' := s4.toks) (o := .lst xs.reverse) (fun b ob q => Heap.get?_push_of_some _ q) (Nat.le_refl _) ?_, rfl, q _ (I5.hok.fresh (Nat.le_refl _))⟩
    exact ⟨by rw [List.length_reverse]; exact hz, _, 0, r.reverse, Heap.get?_push_size _ rfl⟩
  · obtain ⟨its, r, ht, hz⟩ := I5.tuple hx
    have hlen := r.length
    refine tail_any (ops := [.ref a, .ref s4.heap.objs.size]) ht.typeIs (PyProof.Rows.slot_tuple_getitem.lookup) ?_ (by with_unfolding_all rfl)
    refine HT.getItem_tuple_rev ht (Heap.IsSliceOf.new _ vl vu vs) pl pu ps ?_ (by rw [List.size_toArray]; omega)
    refine ⟨.ref _, _, I5.laid (t' := s4.toks) (o := .tup xs.reverse) (fun b ob q => Heap.get?_push_of_some _ q) (Nat.le_refl _) ?_, rfl, q _ (I5.hok.fresh (Nat.le_refl _))⟩
    exact ⟨by rw [List.length_reverse]; exact hz, _, r.reverse, ⟨_, Heap.get?_push_size _ rfl, rfl, 0, rfl⟩⟩
theorem ve_rev {a : Expr} {ca : CE} {i : Int} {k : Nat} {p1 p2 p3 pos : Pos} (hi : i = 1) (ha : PE X a (tE X.K W T ca)) : PE X (.Subscript a (.Slice none none (some (.UnaryOp .USub (.Constant (.int i) k p1) p2)) p3) pos) (tE X.K W T (.u .rev ca)) := by
  subst hi
  refine PE.imp (pe_rev ha) fun pins s σ H Q I ⟨A, H₀, env, ex, S, p⟩ => ?_
  simp only [ev, post_bind] at p
  refine part1 S p fun dx x H1 p1 e1 S1 r1 => ?_
  obtain ⟨d, ho, q⟩ := p1.ok_of fun _ => op1_ne
  cases dx <;> first | (simp [op1] at ho; done) | skip
  · simp only [op1] at ho; cases ho
    obtain ⟨a, vs, rfl, ha, ka⟩ := r1
    refine ⟨a, vs, rfl, .inl ⟨ha.sql, fun p hp => ?_⟩⟩
    obtain ⟨h1, h2⟩ := lst_new (A := ExM ex A (lk1 ca)) hp (S1.exDom _) ka.reverse
    exact q _ _ (e1.trans (same_upd hp)) (repT_of h1) fun z => by cases z
  · simp only [op1] at ho; cases ho
    cases r1 with
    | @tup a vs _ ha ka =>
      refine ⟨a, vs, rfl, .inr ⟨ha, fun p hp => ?_⟩⟩
      obtain ⟨h1, h2⟩ := tup_new (A := ExM ex A (lk1 ca)) hp ka.reverse
      exact q _ _ (e1.trans (same_upd hp)) (repT_of h1) fun z => by cases z
/-- xs[:0:-1] of a tuple -/
def tRevT (K : PySem.W.Frag) (te : TE) : TE := fun σ H Q => te σ H fun x H1 => ∃ a xs, x = .ref a ∧ SqT K H1 a xs ∧ ∀ p, H1 p = none → Q (.ref p) (upd H1 p (.tup (xs.drop 1).reverse))
theorem Vals.dropN : ∀ {xs : List V} {us : List Value} (n : Nat), Vals xs us → Vals (xs.drop n) (us.drop n)
  | _, _, 0, h => h
  | _, _, n + 1, .nil => .nil
  | _, _, n + 1, .cons _ t => Vals.dropN n t
theorem pe_revT {e : Expr} {te : TE} {k k2 : Nat} {p0 p1 p2 p3 pos : Pos} (he : PE X e te) : PE X (.Subscript e (.Slice none (some (.Constant (.int 0) k2 p0)) (some (.UnaryOp .USub (.Constant (.int 1) k p1) p2)) p3) pos) (tRevT X.K te) := by
  refine ⟨fun pins s σ H Q I h => ?_⟩
  refine Subscript_ (thn (he.run pins s σ H _ I h) fun v s1 ⟨x, H1, I1, r1, q1⟩ => ?_)
  obtain ⟨a, xs, ex, hx, q⟩ := q1
  subst ex
  cases r1
  have hst : PO X (some (.UnaryOp .USub (.Constant (.int 1) k p1) p2)) (tPart (tUn (rU fun i => .int (-i)) (tC (.int 1)))) := po_some (pe_un un_neg pe_int)
  have hs0 : PO X (some (.Constant (.int 0) k2 p0)) (tPart (tC (.int 0))) := po_some pe_int
  refine wpAny_Slice (thn (po_none.run pins s1 σ H1 (fun o H2 => o = none ∧ H2 = H1) I1 ⟨rfl, rfl⟩) fun vl s2 ⟨l, H2, I2, pl, el, e2⟩ => ?_)
  subst el e2
  refine thn (hs0.run pins s2 σ H2 (fun o H3 => o = some 0 ∧ H3 = H2) I2 ⟨0, rfl, rfl, rfl⟩) fun vu s3 ⟨u, H3, I3, pu, eu, e3⟩ => ?_
  subst eu e3
  refine thn (hst.run pins s3 σ H3 (fun o H4 => o = some (-1) ∧ H4 = H3) I3 ⟨1, rfl, -1, rfl, rfl, rfl⟩) fun vs s4 ⟨o, H4, I4, ps, eo, e4⟩ => ?_
  subst eo e4
  have I5 : Inv X pins σ H4 { s4 with heap := s4.heap.push { cls := .type "slice", data := .fields #[vl, vu, vs] } } := I4.kept (t' := s4.toks) fun b ob q => Heap.get?_push_of_some _ q
  show wpAny (model X.prog X.w) X.A (subscriptTail e (.Slice none (some (.Constant (.int 0) k2 p0)) (some (.UnaryOp .USub (.Constant (.int 1) k p1) p2)) p3) (.ref a) (.ref s4.heap.objs.size)) (EP X pins σ Q) X.xe { s4 with heap := s4.heap.push { cls := .type "slice", data := .fields #[vl, vu, vs] } }
  obtain ⟨its, r, ht, hz⟩ := I5.tuple hx
  have hlen := r.length
  refine tail_any (ops := [.ref a, .ref s4.heap.objs.size]) ht.typeIs (PyProof.Rows.slot_tuple_getitem.lookup) ?_ (by with_unfolding_all rfl)
  refine HT.getItem_tuple_revT ht (Heap.IsSliceOf.new _ vl vu vs) pl pu ps ?_ (by rw [List.size_toArray]; omega)
  refine ⟨.ref _, _, I5.laid (t' := s4.toks) (o := .tup (xs.drop 1).reverse) (fun b ob q => Heap.get?_push_of_some _ q) (Nat.le_refl _) ?_, rfl, q _ (I5.hok.fresh (Nat.le_refl _))⟩
  exact ⟨by rw [List.length_reverse, List.length_drop]; omega, _, (Vals.dropN 1 r).reverse, ⟨_, Heap.get?_push_size _ rfl, rfl, 0, rfl⟩⟩
theorem ve_revT {a : Expr} {ca : CE} {i j : Int} {k k2 : Nat} {p0 p1 p2 p3 pos : Pos} (hi : i = 1) (hj : j = 0) (ha : PE X a (tE X.K W T ca)) : PE X (.Subscript a (.Slice none (some (.Constant (.int j) k2 p0)) (some (.UnaryOp .USub (.Constant (.int i) k p1) p2)) p3) pos) (tE X.K W T (.u .revT ca)) := by
  subst hi hj
  refine PE.imp (pe_revT ha) fun pins s σ H Q I ⟨A, H₀, env, ex, S, p⟩ => ?_
  simp only [ev, post_bind] at p
  refine part1 S p fun dx x H1 p1 e1 S1 r1 => ?_
  obtain ⟨d, ho, q⟩ := p1.ok_of fun _ => op1_ne
  cases dx <;> first | (simp [op1] at ho; done) | skip
  simp only [op1] at ho; cases ho
  cases r1 with
  | @tup a vs _ ha ka =>
    refine ⟨a, vs, rfl, ha, fun p hp => ?_⟩
    obtain ⟨h1, h2⟩ := tup_new (A := ExM ex A (lk1 ca)) hp (ka.drop 1).reverse
    exact q _ _ (e1.trans (same_upd hp)) (repT_of h1) fun z => by cases z
end
end L3

set_option Elab.async false
set_option linter.all false
set_option maxRecDepth 100000
set_option maxHeartbeats 4000000
/-! what the translator prints is right: expressions -/
namespace L3
open PySem PySem.Spec PyProof.Rows L2

theorem isTup_of {e : Expr} (h : isTupE e = true) : ∃ es k p, e = .Tuple es k p := by
  cases e <;> first | exact ⟨_, _, _, rfl⟩ | cases h
structure Snd (n : Nat) : Prop where
  e : ∀ {X : Cx} {W : Wn} {T : FT} {tc : Tc}, CxOk X W T tc → ∀ {e : Expr} {c : CE}, trE n tc e = some c → PE X e (tE X.K W T c)
  t : ∀ {X : Cx} {W : Wn} {T : FT} {tc : Tc}, CxOk X W T tc → ∀ {e : Expr} {c : CE}, trT n tc e = some c → PT X e (tT X.K W T c)
  w : ∀ {X : Cx} {W : Wn} {T : FT} {tc : Tc}, CxOk X W T tc → ∀ {e : Expr} {c : CE}, trW n tc e = some c → PW X e (tT X.K W T c)
  l : ∀ {X : Cx} {W : Wn} {T : FT} {tc : Tc}, CxOk X W T tc → ∀ {e : List Expr} {c : CL}, trL n tc e = some c → PA X e (tL X.K W T c)
  o : ∀ {X : Cx} {W : Wn} {T : FT} {tc : Tc}, CxOk X W T tc → ∀ {e : Option Expr} {c : CE}, trO n tc e = some c → PO X e (tO X.K W T c)
  c : ∀ {X : Cx} {W : Wn} {T : FT} {tc : Tc}, CxOk X W T tc → ∀ {e : List Expr} {c : CE}, trC n tc e = some c → PTs X e (tT X.K W T c)
  i : ∀ {X : Cx} {W : Wn} {T : FT} {tc : Tc}, CxOk X W T tc → ∀ {tg e : Expr} {c : CI}, trI n tc tg e = some c → PI X tg e (tI X.K W T c)
  r : ∀ {X : Cx} {W : Wn} {T : FT} {tc : Tc}, CxOk X W T tc → ∀ {e : Expr} {c : CI}, trR n tc e = some c → PRg X e (tRgs W X.K T c)

theorem names_ok {X : Cx} {W : Wn} {T : FT} {tc : Tc} (C : CxOk X W T tc) : ∀ {es : List Expr} {r : List (Str × Nat)}, trNs tc es = some r → NameL X es (r.map (·.2))
  | [], r, h => by unfold trNs at h; cases h; exact .nil
  | e :: es, r, h => by
    cases e <;> first | (simp [trNs] at h; done) | skip
    unfold trNs at h
    split at h
    · rename_i i r' h1 h2
      cases h
      obtain ⟨a, b, c⟩ := C.store h1
      exact .cons a b c (names_ok C h2)
    · cases h
theorem tg_ok {X : Cx} {W : Wn} {T : FT} {tc : Tc} (C : CxOk X W T tc) {e : Expr} {t : Tg} {r : List (Str × Nat)} (h : trTg tc e = some (t, r)) : PG X e (gT X.K t) ∧ tgS t = r.map (·.2) := by
  unfold trTg at h
  split at h
  · split at h
    · rename_i h1
      cases h
      obtain ⟨a, b, c⟩ := C.store h1
      exact ⟨vg_one C.nd a b c, rfl⟩
    · cases h
  · split at h
    · rename_i h1 h2
      cases h
      obtain ⟨a, b, c⟩ := C.store h1
      exact ⟨vg_pr C.calm C.nd a b c (names_ok C h2), rfl⟩
    · cases h
  · split at h
    · rename_i h1
      cases h
      exact ⟨vg_tup C.calm C.nd (names_ok C h1), rfl⟩
    · cases h
  · cases h
theorem plainIx_ok {e : Expr} (h : plainIx e = true) : PlainIx e := by
  cases e <;> first | (cases h; done) | (intro o i; rfl)

section
variable {n : Nat} (S : Snd n)
include S
theorem snd_e {X : Cx} {W : Wn} {T : FT} {tc : Tc} (C : CxOk X W T tc) {e : Expr} {c : CE} (h : trE (n + 1) tc e = some c) : PE X e (tE X.K W T c) := by
  have hu : X.A.units + 65 < cLine := by have := C.units; omega
  unfold trE at h
  split at h
  · contradiction
  · -- Constant
    rename_i heq; cases heq
    split at h
    · rename_i h1; cases h; exact cn_ok h1
    · cases h
  · -- Name
    rename_i heq; cases heq
    split at h
    · rename_i h1; cases h
      obtain ⟨a, b, c, d⟩ := C.slot h1
      exact ve_var a b c d
    · split at h
      · rename_i h1
        split at h
        · rename_i h2; cases h
          rw [Bool.and_eq_true] at h1
          obtain ⟨u, v, m, r, ha⟩ := C.consts _ _ h2
          exact ve_globD ha (C.gl h1.2) m r (nm_of h1.1).1
        · cases h
      · cases h
  · -- Tuple
    rename_i heq; cases heq
    split at h
    · rename_i h1; cases h; exact ve_tup (S.l C h1)
    · cases h
  · -- List
    rename_i heq; cases heq
    split at h
    · rename_i h1; cases h; exact ve_lst (S.l C h1)
    · cases h
  · -- Dict
    rename_i heq; cases heq; cases h; exact ve_dct0
  · -- BinOp
    rename_i heq; cases heq
    split at h
    · rename_i h1 h2 h3; cases h; exact binop_ok h1 (S.e C h2) (S.e C h3)
    · cases h
  · -- Not
    rename_i heq; cases heq
    split at h
    · rename_i h1; cases h; exact ve_not (S.e C h1)
    · cases h
  · -- USub
    rename_i heq; cases heq
    split at h
    · rename_i h1; cases h; exact ve_neg (S.e C h1)
    · cases h
  · -- one
    rename_i heq; cases heq
    exact pe_one (S.e C h)
  · -- and
    rename_i heq; cases heq
    split at h
    · rename_i h1 h2; cases h; exact ve_and (S.e C h1) (S.e C h2)
    · cases h
  · -- or
    rename_i heq; cases heq
    split at h
    · rename_i h1 h2; cases h; exact ve_or (S.e C h1) (S.e C h2)
    · cases h
  · -- compare
    rename_i heq; cases heq
    split at h
    · rename_i h1 h2 h3
      split at h
      · rename_i h4; cases h
        exact ve_cmpA (opC_ok hu h1) (op2_at (opC_at h1)) (notSet_ok h4) (S.e C h2) (S.e C h3)
      · cases h
    · cases h
  · -- chain
    rename_i heq; cases heq
    split at h
    · rename_i h1 h2 h3 h4 h5
      split at h
      · rename_i h6; cases h
        exact ve_chain (opC_ok hu h1) (opC_ok hu h2) (op2_at (opC_at h1)) (op2_at (opC_at h2)) (notSet_ok h6) (S.e C h3) (S.e C h4) (S.e C h5)
      · cases h
    · cases h
  · -- ite
    rename_i heq; cases heq
    split at h
    · rename_i h1 h2 h3; cases h; exact ve_ite (S.t C h1) (S.e C h2) (S.e C h3)
    · cases h
  · -- rev
    rename_i heq; cases heq
    split at h
    · rename_i h1
      split at h
      · rename_i h2; cases h; exact ve_rev h2 (S.e C h1)
      · cases h
    · cases h
  · -- revT
    rename_i heq; cases heq
    split at h
    · rename_i h1
      split at h
      · rename_i h2; cases h; exact ve_revT h2.1 h2.2 (S.e C h1)
      · cases h
    · cases h
  · -- slice
    rename_i heq; cases heq
    split at h
    · rename_i h1 h2 h3; cases h; exact ve_sl (S.e C h1) (S.o C h2) (S.o C h3)
    · cases h
  · -- subscript
    rename_i heq; cases heq
    split at h
    · rename_i h1 h2
      split at h
      · rename_i h3; cases h; exact ve_idx (plainIx_ok h3) (S.e C h1) (S.e C h2)
      · cases h
    · cases h
  · -- comp
    rename_i heq; cases heq
    split at h
    · rename_i h1 h2 h3 h4
      split at h
      · rename_i h5; cases h
        obtain ⟨h5, h6, h7⟩ := h5
        subst h5
        refine ve_lc C.calm C.nd (S.i C h2) (by rw [C.N, C.sc]; exact blkOk_by h6) (fun i => ?_) (fun s H Ca cl fp => (tg_ok (C.inner s H _ cl Ca fp) h1).1) (fun s H Ca cl fp => S.c (C.inner s H _ cl Ca fp) h3) (fun s H Ca cl fp => S.e (C.inner s H _ cl Ca fp) h4) (fun x => notSet_f h7 x)
        have q : tgS _ = _ := (tg_ok (C.inner X.s_0 X.H_0 _ [] 0 []) h1).2
        rw [q]
      · cases h
    · cases h
  · -- call 1
    rename_i heq; cases heq
    split at h
    · rename_i hs
      simp only [Bool.and_eq_true] at hs
      obtain ⟨⟨hs1, hs2⟩, hs3⟩ := hs
      split at h
      · rename_i h1
        split at h
        · rename_i h2; cases h
          obtain ⟨k, f, fd, ps, F, hr, hm, hk, hb⟩ := C.calls _ _ h1
          exact ve_call F hr (C.gl hs2) hm hk hb C.takes (nm_of hs1).1 (by simp [hs3]) (S.l C h2)
        · cases h
      · split at h
        · rename_i h2
          split at h
          · rename_i h3
            split at h
            · rename_i h4
              split at h
              · rename_i h5; cases h
                rw [Bool.and_eq_true] at h5
                exact sset_ok C h3 h2 h5.1 h5.2 (S.e C h4)
              · cases h
            · cases h
          · split at h
            · rename_i h3
              split at h
              · rename_i h4; cases h; exact rg_ok C h3 h2 hs3 (S.r C h4)
              · cases h
            · split at h
              · rename_i h3 h4; cases h; exact b1_ok C h3 h2 hs3 (S.e C h4)
              · cases h
        · cases h
    · cases h
  · -- call 2
    rename_i heq; cases heq
    split at h
    · rename_i hs
      simp only [Bool.and_eq_true] at hs
      obtain ⟨⟨hs1, hs2⟩, hs3, hs4⟩ := hs
      split at h
      · rename_i h1
        split at h
        · rename_i h2; cases h
          obtain ⟨k, f, fd, ps, F, hr, hm, hk, hb⟩ := C.calls _ _ h1
          exact ve_call F hr (C.gl hs2) hm hk hb C.takes (nm_of hs1).1 (by simp [hs3, hs4]) (S.l C h2)
        · cases h
      · split at h
        · rename_i h2
          split at h
          · rename_i hf
            split at h
            · rename_i h3
              split at h
              · rename_i h4
                split at h
                · rename_i h5; cases h; exact isi_ok C hf h4 h2 h5 hs3 (S.e C h3)
                · cases h
              · cases h
            · cases h
          · split at h
            · rename_i h3 h4 h5; cases h; exact b2_ok C h3 h2 hs3 hs4 (S.e C h4) (S.e C h5)
            · cases h
        · cases h
    · cases h
  · -- call 3
    rename_i heq; cases heq
    split at h
    · rename_i hs
      simp only [Bool.and_eq_true] at hs
      obtain ⟨⟨hs1, hs2⟩, hs3⟩ := hs
      split at h
      · rename_i h1 h2; cases h
        obtain ⟨k, f, fd, ps, F, hr, hm, hk, hb⟩ := C.calls _ _ h1
        exact ve_call F hr (C.gl hs2) hm hk hb C.takes (nm_of hs1).1 hs3 (S.l C h2)
      · cases h
    · cases h
  · cases h
theorem snd_t {X : Cx} {W : Wn} {T : FT} {tc : Tc} (C : CxOk X W T tc) {e : Expr} {c : CE} (h : trT (n + 1) tc e = some c) : PT X e (tT X.K W T c) := by
  have hu : X.A.units + 65 < cLine := by have := C.units; omega
  unfold trT at h
  split at h
  · contradiction
  · rename_i heq; cases heq
    split at h
    · rename_i h1; cases h; exact vt_not (S.t C h1)
    · cases h
  · rename_i heq; cases heq
    exact (S.w C h).pt
  · rename_i heq; cases heq
    split at h
    · rename_i h1 h2 h3
      split at h
      · rename_i h4; cases h
        exact vt_cmpA (opC_ok hu h1) (op2_at (opC_at h1)) (notSet_ok h4) (S.e C h2) (S.e C h3)
      · cases h
    · cases h
  · rename_i heq; cases heq
    split at h
    · rename_i h1 h2 h3 h4 h5
      split at h
      · rename_i h6; cases h
        exact vt_chain (opC_ok hu h1) (opC_ok hu h2) (op2_at (opC_at h1)) (op2_at (opC_at h2)) (notSet_ok h6) (S.e C h3) (S.e C h4) (S.e C h5)
      · cases h
    · cases h
  · rename_i heq _ _ _ _; cases heq
    split at h
    · rename_i h1; exact vt_val (S.e C h) (tvOk_ok h1)
    · cases h
theorem snd_w {X : Cx} {W : Wn} {T : FT} {tc : Tc} (C : CxOk X W T tc) {e : Expr} {c : CE} (h : trW (n + 1) tc e = some c) : PW X e (tT X.K W T c) := by
  unfold trW at h
  split at h
  · contradiction
  · rename_i heq; cases heq; exact vw_and1 (S.t C h)
  · rename_i heq; cases heq; exact vw_or1 (S.t C h)
  · rename_i heq; cases heq
    split at h
    · rename_i h1 h2; cases h; exact vw_and (S.t C h1) (S.w C h2)
    · cases h
  · rename_i heq; cases heq
    split at h
    · rename_i h1 h2; cases h; exact vw_or (S.t C h1) (S.w C h2)
    · cases h
  · cases h
theorem snd_l {X : Cx} {W : Wn} {T : FT} {tc : Tc} (C : CxOk X W T tc) {e : List Expr} {c : CL} (h : trL (n + 1) tc e = some c) : PA X e (tL X.K W T c) := by
  unfold trL at h
  split at h
  · contradiction
  · cases h; exact va_nil
  · rename_i heq; cases heq
    split at h
    · rename_i h1 h2
      split at h
      · rename_i h3; cases h; exact va_cons h3 (S.e C h1) (S.l C h2)
      · cases h
    · cases h
theorem snd_o {X : Cx} {W : Wn} {T : FT} {tc : Tc} (C : CxOk X W T tc) {e : Option Expr} {c : CE} (h : trO (n + 1) tc e = some c) : PO X e (tO X.K W T c) := by
  unfold trO at h
  split at h
  · contradiction
  · cases h; exact vo_none
  · rename_i heq; cases heq
    split at h
    · rename_i h1; cases h; exact vo_some (S.e C h1)
    · cases h
theorem snd_c {X : Cx} {W : Wn} {T : FT} {tc : Tc} (C : CxOk X W T tc) {e : List Expr} {c : CE} (h : trC (n + 1) tc e = some c) : PTs X e (tT X.K W T c) := by
  unfold trC at h
  split at h
  · contradiction
  · cases h; exact vts_nil
  · rename_i heq; cases heq; exact pts_one (S.t C h)
  · cases h
theorem snd_r {X : Cx} {W : Wn} {T : FT} {tc : Tc} (C : CxOk X W T tc) {e : Expr} {c : CI} (h : trR (n + 1) tc e = some c) : PRg X e (tRgs W X.K T c) := by
  unfold trR at h
  split at h
  · contradiction
  · rename_i heq; cases heq
    split at h
    · rename_i h1
      split at h
      · rename_i h2; cases h
        obtain ⟨h2, h3, h4⟩ := h2
        subst h2
        obtain ⟨g, m, _, _⟩ := C.blt h3
        exact vr_1 g m h4 (S.e C h1)
      · cases h
    · cases h
  · rename_i heq; cases heq
    split at h
    · rename_i h1 h1'
      split at h
      · rename_i h2; cases h
        obtain ⟨h2, h3, h4, h5⟩ := h2
        subst h2
        obtain ⟨g, m, _, _⟩ := C.blt h3
        exact vr_2 g m h4 h5 (S.e C h1) (S.e C h1')
      · cases h
    · cases h
  · cases h
theorem snd_i {X : Cx} {W : Wn} {T : FT} {tc : Tc} (C : CxOk X W T tc) {tg e : Expr} {c : CI} (h : trI (n + 1) tc tg e = some c) : PI X tg e (tI X.K W T c) := by
  unfold trI at h
  split at h
  · contradiction
  · rename_i heq; cases heq
    split at h
    · rename_i hf
      subst hf
      split at h
      · rename_i hb
        obtain ⟨g, m, _, _⟩ := C.blt hb
        split at h
        · split at h
          · rename_i h1
            split at h
            · rename_i h2; cases h; exact vi_rng1 g m h2 (S.e C h1)
            · cases h
          · cases h
        · split at h
          · rename_i h1 h1'
            split at h
            · rename_i h2; cases h
              rw [Bool.and_eq_true] at h2
              exact vi_rng2 g m h2.1 h2.2 (S.e C h1) (S.e C h1')
            · cases h
          · cases h
        · cases h
      · cases h
    · split at h
      · rename_i hf
        subst hf
        split at h
        · rename_i hb
          rw [Bool.and_eq_true] at hb
          obtain ⟨g, m, _, _⟩ := C.blt hb.1
          obtain ⟨te, tk, tp, ht⟩ := isTup_of hb.2
          subst ht
          split at h
          · split at h
            · rename_i h1
              split at h
              · rename_i h2; cases h; exact vi_enum g m h2 (S.e C h1)
              · cases h
            · cases h
          · cases h
        · cases h
      · split at h
        · rename_i hf
          subst hf
          split at h
          · rename_i hb
            rw [Bool.and_eq_true] at hb
            obtain ⟨g, m, _, _⟩ := C.blt hb.1
            obtain ⟨te, tk, tp, ht⟩ := isTup_of hb.2
            subst ht
            split at h
            · split at h
              · rename_i h1 h1'
                split at h
                · rename_i h2; cases h
                  rw [Bool.and_eq_true] at h2
                  exact vi_zip g m h2.1 h2.2 (S.e C h1) (S.e C h1')
                · cases h
              · cases h
            · cases h
          · cases h
        · split at h
          · rename_i hf
            subst hf
            split at h
            · rename_i hb
              obtain ⟨g, m, _, _⟩ := C.blt hb
              split at h
              · split at h
                · rename_i h1
                  split at h
                  · rename_i h2; cases h; exact vi_rev g m h2 (S.e C h1)
                  · cases h
                · cases h
              · cases h
            · cases h
          · split at h
            · rename_i h1; cases h; exact vi_seq (S.e C h1)
            · cases h
  · rename_i heq _; cases heq
    split at h
    · rename_i h1; cases h; exact vi_seq (S.e C h1)
    · cases h
end
theorem snd0 : Snd 0 where
  e := fun C _ _ h => by unfold trE at h; cases h
  t := fun C _ _ h => by unfold trT at h; cases h
  w := fun C _ _ h => by unfold trW at h; cases h
  l := fun C _ _ h => by unfold trL at h; cases h
  o := fun C _ _ h => by unfold trO at h; cases h
  c := fun C _ _ h => by unfold trC at h; cases h
  i := fun C _ _ _ h => by unfold trI at h; cases h
  r := fun C _ _ h => by unfold trR at h; cases h
theorem snd : ∀ n, Snd n
  | 0 => snd0
  | n + 1 => { e := fun C _ _ h => snd_e (snd n) C h, t := fun C _ _ h => snd_t (snd n) C h, w := fun C _ _ h => snd_w (snd n) C h, l := fun C _ _ h => snd_l (snd n) C h, o := fun C _ _ h => snd_o (snd n) C h, c := fun C _ _ h => snd_c (snd n) C h, i := fun C _ _ _ h => snd_i (snd n) C h, r := fun C _ _ h => snd_r (snd n) C h }
end L3

set_option Elab.async false
set_option linter.all false
set_option maxRecDepth 100000
set_option maxHeartbeats 4000000
/-! calls that may be refused: tests between which tables of code objects may grow -/
namespace L3
open PySem PySem.Spec PyProof.Rows L2

section
variable {K : PySem.W.Frag} {A A0 : Av} {H₀ H H1 : Hp} {env : Env} {ex : Nat → Option Addr} {σ : L2.St} {TB : Tbl}
theorem same_extN (s : Same H₀ H) (t2 : ∀ b ps, H₀ b ≠ some (.tbl ps)) (e : LamX.ExtN H H1) : Same H₀ H1 := fun b o h => e b o (s b o h) fun ps z => t2 b ps (by rw [h, z])
theorem RepT.extN {d : D} {v : V} (e : LamX.ExtN H H1) (h : RepT K H A0 A d v) : RepT K H1 A0 A d v :=
  RepT.stay (H := L3.rt H) (fun b o hb _ => e b o (rt_some hb).1 (ntb_ne (rt_some hb).2)) (fun a z => .inl z) (fun b o hb _ => e b o (rt_some hb).1 (ntb_ne (rt_some hb).2)) (fun a z => .inl z) h.rt
theorem Own1.extN {a : Addr} {d : D} (h : Own1 H a d) (e : LamX.ExtN H H1) : Own1 H1 a d := by
  cases d <;> first | exact h.elim | (obtain ⟨vs, h⟩ := h; exact ⟨vs, e _ _ h fun ps z => by cases z⟩)
theorem SR.extN (S : SR K A H₀ H env ex σ) (t2 : ∀ b ps, H₀ b ≠ some (.tbl ps)) (t3 : ∀ a, A a → ∀ ps, H a ≠ some (.tbl ps)) (e : LamX.ExtN H H1) : SR K A H₀ H1 env ex σ where
  len := S.len
  inj := S.inj
  dom := fun a z q => by
    cases hq : H a with
    | none => exact S.dom a z hq
    | some o => rw [e a o hq fun ps eo => t3 a z ps (by rw [hq, eo])] at q; cases q
  new := S.new
  old := S.old
  same := same_extN S.same t2 e
  hasv := S.hasv
  at_ := fun i d fl h => by
    obtain ⟨v, e1, r, o⟩ := S.at_ i d fl h
    exact ⟨v, e1, r.extN e, o.imp id fun ⟨a, x, y, z⟩ => ⟨a, x, y, z.extN e⟩⟩
theorem Keep.extN (e : LamX.ExtN H H1) (t : TabK TB H H1) : Keep TB env ex σ env ex σ H H1 := ⟨fun b o h n _ => e b o h (ntb_ne n), fun i b d h h' => .inr ⟨i, d, h, h'⟩, fun i b d h h' => ⟨h, d, h'⟩, rfl, fun j h => ⟨rfl, h⟩, t⟩
/-- what is wished of such an expression's outcome -/
def PX (K : PySem.W.Frag) (TB : Tbl) (W : Wn) (A : Av) (H₀ H : Hp) (env : Env) (ex : Nat → Option Addr) (σ : L2.St) (r : R D) (P : D → Hp → Prop) : Prop :=
  match r with
  | .ok d => ∀ H', SR K A H₀ H' env ex σ → TOk TB A H₀ H' → Keep TB env ex σ env ex σ H H' → P d H'
  | .exc n => ∀ H', Same H₀ H' → W n H'
  | .stuck => False
theorem PX.bind {W : Wn} {r : R D} {k : D → R D} {P : D → Hp → Prop} (h : PX K TB W A H₀ H env ex σ (r.bind k) P) : PX K TB W A H₀ H env ex σ r fun d H' => PX K TB W A H₀ H' env ex σ (k d) P := by
  cases r with
  | ok d =>
    intro H' S t k1
    change PX K TB W A H₀ H env ex σ (k d) P at h
    cases hk : k d with
    | ok d' => rw [hk] at h; exact fun H2 S2 t2 k2 => h H2 S2 t2 (k1.trans k2)
    | exc n => rw [hk] at h; exact h
    | stuck => rw [hk] at h; exact h
  | exc n => exact h
  | stuck => exact h
theorem PX.imp {W : Wn} {r : R D} {P P' : D → Hp → Prop} (h : PX K TB W A H₀ H env ex σ r P) (hp : ∀ d H', r = .ok d → SR K A H₀ H' env ex σ → TOk TB A H₀ H' → Keep TB env ex σ env ex σ H H' → P d H' → P' d H') : PX K TB W A H₀ H env ex σ r P' := by
  cases r with
  | ok d => exact fun H' S t k => hp d H' rfl S t k (h H' S t k)
  | exc n => exact h
  | stuck => exact h
end
def tX (K : PySem.W.Frag) (TB : Tbl) (W : Wn) (T : FT) (c : RX) : TE := fun σ H Q => ∃ A H₀ env ex, SR K A H₀ H env ex σ ∧ TOk TB A H₀ H ∧ PX K TB W A H₀ H env ex σ (evX T c env) fun d H' => Q (toV d) H'
def tXT (K : PySem.W.Frag) (TB : Tbl) (W : Wn) (T : FT) (c : RX) : TT := fun σ H Q => ∃ A H₀ env ex, SR K A H₀ H env ex σ ∧ TOk TB A H₀ H ∧ PX K TB W A H₀ H env ex σ (evX T c env) fun d H' => ∃ b, d = .bool b ∧ Q b H'
section
variable {X : Cx} {TB : Tbl} {W : Wn} {T : FT} {e a b : Expr} {c : CE} {ra rb : RX} {pos : Pos}
theorem vx_pl (h : PE X e (tE X.K W T c)) : PE X e (tX X.K TB W T (.pl c)) :=
  PE.imp h fun pins s σ H Q I ⟨A, H₀, env, ex, S, tk, p⟩ => by
    refine ⟨A, H₀, env, ex, S, ?_⟩
    simp only [evX] at p
    cases hc : ev T c env with
    | ok d =>
      rw [hc] at p
      change PX X.K TB W A H₀ H env ex σ (if atom d then .ok d else .stuck) _ at p
      split at p
      · rename_i ha
        intro v H' e r _
        rw [atom_rep ha r]
        exact p H' (S.ext e) (tk.same S e) (.refl e)
      · exact p.elim
    | exc n => rw [hc] at p; exact fun H' e => p H' (S.same.trans e)
    | stuck => rw [hc] at p; exact p.elim
theorem vxt_pl (h : PT X e (tT X.K W T c)) : PT X e (tXT X.K TB W T (.pl c)) :=
  PT.imp h fun pins s σ H Q I ⟨A, H₀, env, ex, S, tk, p⟩ => by
    refine ⟨A, H₀, env, ex, S, ?_⟩
    simp only [evX] at p
    cases hc : ev T c env with
    | ok d =>
      rw [hc] at p
      change PX X.K TB W A H₀ H env ex σ (if atom d then .ok d else .stuck) _ at p
      split at p
      · rename_i ha
        obtain ⟨b, eb, q⟩ := p H S tk (.refl (Same.refl _))
        refine ⟨b, eb, fun H' e => ?_⟩
        obtain ⟨b', eb', q'⟩ := p H' (S.ext e) (tk.same S e) (.refl e)
        rw [eb] at eb'
        cases eb'
        exact q'
      · exact p.elim
    | exc n => rw [hc] at p; exact fun H' e => p H' (S.same.trans e)
    | stuck => rw [hc] at p; exact p.elim
theorem cmpR_ok {ne : Bool} {x y d : D} (h : cmpR ne x y = .ok d) : ∃ a b, x = .str a ∧ y = .str b ∧ d = .bool (if ne then !decide (a = b) else decide (a = b)) := by
  unfold cmpR at h
  split at h
  · cases h; exact ⟨_, _, rfl, rfl, rfl⟩
  · cases h
theorem cmpR_ne {ne : Bool} {x y : D} {n : String} : cmpR ne x y ≠ .exc n := by unfold cmpR; split <;> (intro h; cases h)
theorem dec_strV {a b : Str} : decide (V.str a = V.str b) = decide (a = b) := by simp
theorem vxt_ne (hm : behindInMarks .NotEq b = false) (ha : PE X a (tX X.K TB W T ra)) (hb : PE X b (tX X.K TB W T rb)) : PT X (.Compare a [.NotEq] [b] pos) (tXT X.K TB W T (.cmp true ra rb)) :=
  PT.imp (pt_cmpR op_ne ha hb hm) fun pins s σ H Q I ⟨A, H₀, env, ex, S, tk, p⟩ => by
    simp only [evX] at p
    refine ⟨A, H₀, env, ex, S, tk, p.bind.imp fun dx H1 _ S1 t1 k1 p1 => ⟨A, H₀, env, ex, S1, t1, p1.bind.imp fun dy H2 _ S2 t2 k2 p2 => ?_⟩⟩
    cases hq : cmpR true dx dy with
    | ok d =>
      rw [hq] at p2
      obtain ⟨u, v, rfl, rfl, rfl⟩ := cmpR_ok hq
      obtain ⟨b, eb, q⟩ := p2 H2 S2 t2 (.refl (Same.refl _))
      cases eb
      refine ⟨rfl, _, rfl, ?_⟩
      show Q (!decide (V.str u = V.str v)) H2
      rw [dec_strV]
      exact q
    | exc n => exact absurd hq cmpR_ne
    | stuck => rw [hq] at p2; exact p2.elim
theorem vxt_eq (hm : behindInMarks .Eq b = false) (ha : PE X a (tX X.K TB W T ra)) (hb : PE X b (tX X.K TB W T rb)) : PT X (.Compare a [.Eq] [b] pos) (tXT X.K TB W T (.cmp false ra rb)) :=
  PT.imp (pt_cmpR op_eq ha hb hm) fun pins s σ H Q I ⟨A, H₀, env, ex, S, tk, p⟩ => by
    simp only [evX] at p
    refine ⟨A, H₀, env, ex, S, tk, p.bind.imp fun dx H1 _ S1 t1 k1 p1 => ⟨A, H₀, env, ex, S1, t1, p1.bind.imp fun dy H2 _ S2 t2 k2 p2 => ?_⟩⟩
    cases hq : cmpR false dx dy with
    | ok d =>
      rw [hq] at p2
      obtain ⟨u, v, rfl, rfl, rfl⟩ := cmpR_ok hq
      obtain ⟨b, eb, q⟩ := p2 H2 S2 t2 (.refl (Same.refl _))
      cases eb
      refine ⟨rfl, _, rfl, ?_⟩
      show Q (decide (V.str u = V.str v)) H2
      rw [dec_strV]
      exact q
    | exc n => exact absurd hq cmpR_ne
    | stuck => rw [hq] at p2; exact p2.elim
theorem vxw_and1 (ha : PT X a (tXT X.K TB W T ra)) : PW X (.BoolOp .And [a] pos) (tXT X.K TB W T ra) := pw_and1 ha
theorem vxw_or1 (ha : PT X a (tXT X.K TB W T ra)) : PW X (.BoolOp .Or [a] pos) (tXT X.K TB W T ra) := pw_or1 ha
theorem vxw_and {rest : List Expr} (ha : PT X a (tXT X.K TB W T ra)) (hb : PW X (.BoolOp .And (b :: rest) pos) (tXT X.K TB W T rb)) : PW X (.BoolOp .And (a :: b :: rest) pos) (tXT X.K TB W T (.and ra rb)) :=
  PW.imp (pw_and ha hb) fun pins s σ H Q I ⟨A, H₀, env, ex, S, tk, p⟩ => by
    simp only [evX] at p
    refine ⟨A, H₀, env, ex, S, tk, p.bind.imp fun dx H1 _ S1 t1 k1 p1 => ?_⟩
    split at p1
    · exact ⟨true, rfl, iteT ⟨A, H₀, env, ex, S1, t1, p1⟩⟩
    · obtain ⟨b, eb, q⟩ := p1 H1 S1 t1 (.refl (Same.refl _))
      cases eb
      exact ⟨false, rfl, iteF q⟩
    · exact p1.elim
theorem vxw_or {rest : List Expr} (ha : PT X a (tXT X.K TB W T ra)) (hb : PW X (.BoolOp .Or (b :: rest) pos) (tXT X.K TB W T rb)) : PW X (.BoolOp .Or (a :: b :: rest) pos) (tXT X.K TB W T (.or ra rb)) :=
  PW.imp (pw_or ha hb) fun pins s σ H Q I ⟨A, H₀, env, ex, S, tk, p⟩ => by
    simp only [evX] at p
    refine ⟨A, H₀, env, ex, S, tk, p.bind.imp fun dx H1 _ S1 t1 k1 p1 => ?_⟩
    split at p1
    · obtain ⟨b, eb, q⟩ := p1 H1 S1 t1 (.refl (Same.refl _))
      cases eb
      exact ⟨true, rfl, iteT q⟩
    · exact ⟨false, rfl, iteF ⟨A, H₀, env, ex, S1, t1, p1⟩⟩
    · exact p1.elim
theorem vs_ifR {fr : Bool} {as bs : List Stmt} {ca cb : CS} (hc : PT X e (tXT X.K TB W T ra)) (ha : PSs X as (tS X.K TB W T fr ca)) (hb : PSs X bs (tS X.K TB W T fr cb)) : PS X (.If e as bs pos) (tS X.K TB W T fr (.ifR ra ca cb)) :=
  PS.imp (ps_if hc ha hb) fun pins s σ H D I ⟨A, H₀, env, ex, S, tk, p⟩ => by
    have p' : Wish X.K TB W fr A H₀ H env ex σ D ((evX T ra env).toO fun x => match x with | .bool true => exec T fr ca env | .bool false => exec T fr cb env | _ => .st) := p
    refine ⟨A, H₀, env, ex, S, tk, ?_⟩
    have more : ∀ {o : O} {H1 : Hp}, Keep TB env ex σ env ex σ H H1 → Wish X.K TB W fr A H₀ H env ex σ D o → Wish X.K TB W fr A H₀ H1 env ex σ D o := fun {o H1} k1 w => by
      cases o with
      | nx env' => exact fun σ' H' ex' S' k => w σ' H' ex' S' (k1.trans k)
      | rt d => exact w
      | ex n => exact w
      | st => exact w
    cases hx : evX T ra env with
    | ok d =>
      rw [hx] at p'
      clear p hx
      cases d <;> first | exact p'.elim | skip
      rename_i b
      intro H1 S1 t1 k1
      refine ⟨b, rfl, ?_⟩
      cases b with
      | true => exact iteT ⟨A, H₀, env, ex, S1, t1, more k1 p'⟩
      | false => exact iteF ⟨A, H₀, env, ex, S1, t1, more k1 p'⟩
    | exc n => rw [hx] at p'; exact p'
    | stuck => rw [hx] at p'; exact p'
end

/-! ### the translator's part -/
def noPar : Arguments → Bool
  | ⟨[], [], none, [], [], none, []⟩ => true
  | _ => false
def Tc.lam (t : Tc) (scope : Scope) : Tc := { t with sc := scope, top := false, refs := none }
def lamOk (t : Tc) (params : Arguments) (scope : Scope) : Bool := noPar params && LamX.lamSB t.sc scope
def trX (n : Nat) (tc : Tc) : Expr → Option RX
  | .Call (.Name x _) [.Lambda params body scope _] [] _ => match tc.refs, trE n (tc.lam scope) body with
    | some (y, ws), some c => if x = y ∧ lamOk tc params scope = true then some (.ref ws c) else none
    | _, _ => none
  | _ => none
mutual
def trXT : Nat → Tc → Expr → Option RX
  | 0, _, _ => none
  | n + 1, tc, .BoolOp op es p => trXW n tc (.BoolOp op es p)
  | n + 1, tc, .Compare a [op] [b] p => match trX n tc a, trE n tc b with
    | some r, some c => if notSet b then (match op with
      | .NotEq => some (.cmp true r (.pl c))
      | .Eq => some (.cmp false r (.pl c))
      | _ => none) else none
    | _, _ => (match trT n tc (.Compare a [op] [b] p) with
      | some c => some (.pl c)
      | none => none)
  | n + 1, tc, e => match trT n tc e with
    | some c => some (.pl c)
    | none => none
def trXW : Nat → Tc → Expr → Option RX
  | 0, _, _ => none
  | n + 1, tc, .BoolOp .And [a] _ => trXT n tc a
  | n + 1, tc, .BoolOp .Or [a] _ => trXT n tc a
  | n + 1, tc, .BoolOp .And (a :: b :: r) p => match trXT n tc a, trXW n tc (.BoolOp .And (b :: r) p) with
    | some x, some y => some (.and x y)
    | _, _ => none
  | n + 1, tc, .BoolOp .Or (a :: b :: r) p => match trXT n tc a, trXW n tc (.BoolOp .Or (b :: r) p) with
    | some x, some y => some (.or x y)
    | _, _ => none
  | _ + 1, _, _ => none
end
/-- what the call of such a def keeps -/
def RefR (X : Cx) (TB : Tbl) (W : Wn) (T : FT) (tc : Tc) : Prop := ∀ (x : Str) (ws : List (String × Str)), tc.refs = some (x, ws) → ∀ {n : Nat} {p lpos pos : Pos} {params : Arguments} {scope : Scope} {body : Expr} {c : CE}, lamOk tc params scope = true → trE n (tc.lam scope) body = some c →
  PE X (.Call (.Name x p) [.Lambda params body scope lpos] [] pos) (tX X.K TB W T (.ref ws c))
theorem refR_none {X : Cx} {TB : Tbl} {W : Wn} {T : FT} {tc : Tc} (h : tc.refs = none) : RefR X TB W T tc := fun x ws e => by rw [h] at e; cases e
section
variable {X : Cx} {TB : Tbl} {W : Wn} {T : FT} {tc : Tc}
theorem snd_x (C : CxOk X W T tc) (Rf : RefR X TB W T tc) {n : Nat} {e : Expr} {r : RX} (h : trX n tc e = some r) : PE X e (tX X.K TB W T r) := by
  unfold trX at h
  split at h
  · split at h
    · rename_i h1 h2
      split at h
      · rename_i hc; cases h
        obtain ⟨hc1, hc2⟩ := hc
        subst hc1
        exact Rf _ _ h1 hc2 h2
      · cases h
    · cases h
  · cases h
structure SndX (X : Cx) (TB : Tbl) (W : Wn) (T : FT) (tc : Tc) (n : Nat) : Prop where
  t : ∀ {e : Expr} {r : RX}, trXT n tc e = some r → PT X e (tXT X.K TB W T r)
  w : ∀ {e : Expr} {r : RX}, trXW n tc e = some r → PW X e (tXT X.K TB W T r)
theorem sndX_t (C : CxOk X W T tc) (Rf : RefR X TB W T tc) {n : Nat} (S : SndX X TB W T tc n) {e : Expr} {r : RX} (h : trXT (n + 1) tc e = some r) : PT X e (tXT X.K TB W T r) := by
  unfold trXT at h
  split at h
  · contradiction
  · rename_i heq; cases heq
    exact (S.w h).pt
  · rename_i heq; cases heq
    split at h
    · rename_i h1 h2
      split at h
      · rename_i h3
        split at h
        · cases h; exact vxt_ne (notSet_ok h3) (snd_x C Rf h1) (vx_pl ((snd n).e C h2))
        · cases h; exact vxt_eq (notSet_ok h3) (snd_x C Rf h1) (vx_pl ((snd n).e C h2))
        · cases h
      · cases h
    · split at h
      · rename_i h1; cases h; exact vxt_pl ((snd n).t C h1)
      · cases h
  · rename_i heq _ _; cases heq
    split at h
    · rename_i h1; cases h; exact vxt_pl ((snd n).t C h1)
    · cases h
theorem sndX_w (C : CxOk X W T tc) (Rf : RefR X TB W T tc) {n : Nat} (S : SndX X TB W T tc n) {e : Expr} {r : RX} (h : trXW (n + 1) tc e = some r) : PW X e (tXT X.K TB W T r) := by
  unfold trXW at h
  split at h
  · contradiction
  · rename_i heq; cases heq; exact vxw_and1 (S.t h)
  · rename_i heq; cases heq; exact vxw_or1 (S.t h)
  · rename_i heq; cases heq
    split at h
    · rename_i h1 h2; cases h; exact vxw_and (S.t h1) (S.w h2)
    · cases h
  · rename_i heq; cases heq
    split at h
    · rename_i h1 h2; cases h; exact vxw_or (S.t h1) (S.w h2)
    · cases h
  · cases h
theorem sndX (C : CxOk X W T tc) (Rf : RefR X TB W T tc) : ∀ n, SndX X TB W T tc n
  | 0 => { t := fun h => (by unfold trXT at h; cases h), w := fun h => (by unfold trXW at h; cases h) }
  | n + 1 => ⟨sndX_t C Rf (sndX C Rf n), sndX_w C Rf (sndX C Rf n)⟩
end
end L3

set_option Elab.async false
set_option linter.all false
set_option maxRecDepth 100000
set_option maxHeartbeats 4000000
/-! what the translator prints is right: statements -/
namespace L3
open PySem PySem.Spec PyProof.Rows L2

/-- the compiler's own look: does the comprehension's result come straight to the name? -/
def swB (sc : Scope) (y : Str) (py : Pos) (pos : Pos) (scope : Scope) : Bool := sc.names.lookup y == some .local && (py.line == pos.line && !(scope.names.any fun (n, k) => n == y && (k == .local || k == .cell)))
theorem sw_false {elt : Expr} {gs : List Comprehension} {scope : Scope} {pos py : Pos} {y : Str} {l : Nat} {env : PySem.Env} (hk : env.scope.kind = .function) (h : swB env.scope y py pos scope = false) :
    swapsWith (.ListComp elt gs scope pos) (some (.Name y py)) l env = pure false := by
  have hb : env.blockKind = .function := by unfold Env.blockKind; rw [hk]; rfl
  have e : swapsWith (.ListComp elt gs scope pos) (some (.Name y py)) l env = pure (env.blockKind == .function && env.kindOf y == some .local && py.line == pos.line && !(scope.names.any fun (n, k) => n == y && (k == .local || k == .cell))) := by
    unfold swapsWith; rfl
  rw [e, hb]
  unfold swB at h
  have : (ScopeKind.function == ScopeKind.function && env.kindOf y == some .local && py.line == pos.line && !(scope.names.any fun (n, k) => n == y && (k == .local || k == .cell))) = false := by
    rw [show (ScopeKind.function == ScopeKind.function) = true from rfl, Bool.true_and, Bool.and_assoc]
    exact h
  rw [this]
theorem swst_ok {es : List Expr} {k : Nat} {tpos : Pos} {e : Expr} {env : PySem.Env} (h : notTup e = true) : swappedStores [.Tuple es k tpos] e env = pure none := by
  cases e <;> first | (cases h; done) | rfl
theorem swso_ok {es : List Expr} {k : Nat} {tpos : Pos} {e : Expr} {l : Nat} {env : PySem.Env} (h : notComp e = true) : swapsWithSole [.Tuple es k tpos] e l env = pure false := by
  cases e <;> first | (cases h; done) | rfl
/-- new lists in a new list -/
def trNw (n : Nat) (tc : Tc) : Expr → Option CE
  | .List es _ => if es.all isNilL = true ∧ es ≠ [] then some (.lst (nilCL es.length)) else none
  | .ListComp (.List [] _) [⟨tg, iter, [], asy⟩] scope _ => match trTg (tc.inner scope) tg, trI n tc tg iter with
    | some (tgc, own), some ci => if asy = 0 ∧ blkC tc.N tc.sc scope own = true ∧ notSet iter = true then some (.lc (own.map (·.2)) tgc ci (.cn (.bool true)) (.lst .nil)) else none
    | _, _ => none
  | _ => none
mutual
def trS : Nat → Tc → Stmt → Option CS
  | 0, _, _ => none
  | n + 1, tc, .Pass _ => some .skip
  | n + 1, tc, .Return none _ => some .retN
  | n + 1, tc, .Return (some e) _ => match e with
    | .Name x p => (match tc.slot x with
      | some i => some (.retV i)
      | none => (match trE n tc (.Name x p) with
        | some c => some (.ret c)
        | none => none))
    | e => (match trE n tc e with
      | some c => some (.ret c)
      | none => none)
  | n + 1, tc, .Expr (.Call (.Attribute (.Name x p1) m p2) [e] [] p3) _ => match tc.slot x, trE n tc e with
    | some i, some c => if m = "append" ∧ (p2.endLine == p3.line) = true ∧ notStar e = true then some (.app i c) else if m = "extend" ∧ (p2.endLine == p3.line) = true ∧ notStar e = true then some (.ext i c) else none
    | _, _ => none
  | n + 1, tc, .Expr (.Call (.Attribute (.Name x p1) m p2) [e', e] [] p3) _ => match tc.slot x, trE n tc e', trE n tc e with
    | some i, some k, some c => if m = "insert" ∧ (p2.endLine == p3.line) = true ∧ notStar e' = true ∧ notStar e = true then some (.ins i k c) else none
    | _, _, _ => none
  | n + 1, tc, .Expr e _ => match trE n tc e with
    | some c => if notComp e then some (.exprS c) else none
    | none => none
  | n + 1, tc, .Assign [.Name x _] e _ => match tc.store x, trE n tc e with
    | some i, some c => (match e with
      | .ListComp _ [⟨_, _, _, 0⟩] _ _ => some (.asg (.one i) c)
      | e => if notComp e then some (.asg (.one i) c) else none)
    | _, _ => none
  | n + 1, tc, .Assign [.Tuple es _ _] e _ => match trNs tc es, trE n tc e with
    | some r, some c => if notTup e && notComp e then some (.asg (.tup (r.map (·.2))) c) else none
    | _, _ => none
  | n + 1, tc, .AugAssign (.Name x _) op e _ => match tc.store x, trE n tc e with
    | some i, some c => (match op with
      | .Add => some (.aug .add i c)
      | .Sub => some (.aug .sub i c)
      | _ => none)
    | _, _ => none
  | n + 1, tc, .If e a b _ => match trT n tc e, trSs n tc a, trSs n tc b with
    | some c, some x, some y => some (.ifS c x y)
    | none, some x, some y => (match trXT n tc e with
      | some r => some (.ifR r x y)
      | none => none)
    | _, _, _ => none
  | n + 1, tc, .For tg it b [] _ => match trTg tc tg, trI n tc tg it, trSs n tc b with
    | some (t, _), some ci, some x => if notSet it then some (.forS t ci x) else none
    | _, _, _ => none
  | n + 1, tc, .While e b [] _ => match trT n tc e, trSs n tc b with
    | some c, some x => some (.whileS c x)
    | _, _ => none
  | n + 1, tc, .Raise (some (.Call (.Name x _) [.Constant (.str _) _ _] [] _)) none _ => match tc.excs.lookup x with
    | some m => if nmOk x && tc.gl x then some (.raise m) else none
    | none => none
  | _ + 1, _, _ => none
def trSs : Nat → Tc → List Stmt → Option CS
  | 0, _, _ => none
  | n + 1, tc, [] => some .skip
  | n + 1, tc, [s] => trS n tc s
  | n + 1, tc, s :: r => match trDeep n tc s r with
    | some c => some c
    | none => (match trS n tc s, trSs n tc r with
      | some a, some b => some (.seq a b)
      | _, _ => none)
/-- a new list of new lists, and the loop that fills it -/
def trDeep : Nat → Tc → Stmt → List Stmt → Option CS
  | 0, _, _, _ => none
  | n + 1, tc, .Assign [.Name x _] e0 _, .For tg it b [] _ :: r => match tc.store x, trNw n tc e0, trTg tc tg, trI n tc tg it with
    | some i, some c, some (t, _), some ci => (match trDs n tc i b, trSs n tc r with
      | some y, some z => if notSet it then some (.seq (.deep i c t ci y) z) else none
      | _, _ => none)
    | _, _, _, _ => none
  | _ + 1, _, _, _ => none
def trD : Nat → Tc → Nat → Stmt → Option CS
  | 0, _, _, _ => none
  | n + 1, tc, i, .Expr (.Call (.Attribute (.Subscript (.Name x _) k _) m p2) [e] [] p3) _ => match tc.slot x, trE n tc k, trE n tc e with
    | some j, some ck, some c => if j = i ∧ m = "append" ∧ (p2.endLine == p3.line) = true ∧ notStar e = true ∧ plainIx k = true then some (.appI i ck c) else none
    | _, _, _ => none
  | n + 1, tc, i, .If e a b _ => match trT n tc e, trDs n tc i a, trDs n tc i b with
    | some c, some x, some y => some (.ifS c x y)
    | _, _, _ => none
  | n + 1, tc, i, .Assign ts e p => match trS n tc (.Assign ts e p) with
    | some (.asg t c) => some (.asg t c)
    | _ => none
  | _ + 1, _, _, _ => none
def trDs : Nat → Tc → Nat → List Stmt → Option CS
  | 0, _, _, _ => none
  | n + 1, tc, i, [] => some .skip
  | n + 1, tc, i, s :: r => match trD n tc i s, trDs n tc i r with
    | some a, some b => some (.seq a b)
    | _, _ => none
end

theorem asg_comp {X : Cx} {TB : Tbl} {W : Wn} {T : FT} {tc : Tc} {fr : Bool} (C : CxOk X W T tc) (hkf : X.env.scope.kind = .function) {n : Nat} {x : Str} {p : Pos} {elt tg iter : Expr} {ifs : List Expr} {scope : Scope} {pos spos : Pos} {i : Nat} {c : CE} (h1 : tc.store x = some i) (h : trE n tc (.ListComp elt [⟨tg, iter, ifs, 0⟩] scope pos) = some c) :
    PS X (.Assign [.Name x p] (.ListComp elt [⟨tg, iter, ifs, 0⟩] scope pos) spos) (tS X.K TB W T fr (.asg (.one i) c)) := by
  obtain ⟨a, b, f⟩ := C.store h1
  have he := (snd n).e C h
  cases hsw : swB X.env.scope x p pos scope with
  | false => exact vs_asg C.nd a b f he (sw_false hkf hsw)
  | true =>
    have hsw' := hsw
    unfold swB at hsw
    simp only [Bool.and_eq_true, Bool.not_eq_true'] at hsw
    obtain ⟨s1, s2, s3⟩ := hsw
    have s1 : X.env.scope.names.lookup x = some .local := by simpa using s1
    cases n with
    | zero => unfold trE at h; cases h
    | succ n =>
      unfold trE at h
      split at h
      · rename_i h1 h2 h3 h4
        split at h
        · rename_i h5; cases h
          obtain ⟨h5, h6, h7⟩ := h5
          have S := snd n
          have q := (tg_ok (C.inner X.s_0 X.H_0 scope [] 0 []) h1).2
          exact PS.imp (ps_setLc C.calm C.nd a s1 (sw_true hkf s1 s2 s3) (S.i C h2) (by rw [C.N, C.sc]; exact blkOk_by h6) (fun s H Ca cl fp => (tg_ok (C.inner s H _ cl Ca fp) h1).1) (fun s H Ca cl fp => S.c (C.inner s H _ cl Ca fp) h3) (fun s H Ca cl fp => S.e (C.inner s H _ cl Ca fp) h4) (fun x => notSet_f h7 x))
            fun pins s σ H D I hh => by
              obtain ⟨A, H₀, env, ex, SR, pp⟩ := asg_imp hh
              exact lc_imp (fun i => by rw [q]) ⟨A, H₀, env, ex, SR, pp⟩
        · cases h
      · cases h

theorem sw_or {env : PySem.Env} {x : Str} {p spos : Pos} (hkf : env.scope.kind = .function) (elt : Expr) (gs : List Comprehension) (scope : Scope) (lpos : Pos) :
    swapsWith (.ListComp elt gs scope lpos) (some (.Name x p)) spos.line env = pure false ∨ (env.scope.names.lookup x = some .local ∧ swapsWith (.ListComp elt gs scope lpos) (some (.Name x p)) spos.line env = pure true) := by
  cases hsw : swB env.scope x p lpos scope with
  | false => exact .inl (sw_false hkf hsw)
  | true =>
    unfold swB at hsw
    simp only [Bool.and_eq_true, Bool.not_eq_true'] at hsw
    obtain ⟨s1, s2, s3⟩ := hsw
    have s1 : env.scope.names.lookup x = some .local := by simpa using s1
    exact .inr ⟨s1, sw_true hkf s1 s2 s3⟩
theorem new_ok {X : Cx} {W : Wn} {T : FT} {tc : Tc} (C : CxOk X W T tc) (hkf : X.env.scope.kind = .function) {n : Nat} {x : Str} {p spos : Pos} {e : Expr} {i : Nat} {c : CE} (h1 : tc.store x = some i) (h : trNw n tc e = some c) :
    PS X (.Assign [.Name x p] e spos) (tAsg (tNew X.K W T c) (gName i)) := by
  obtain ⟨a, b, f⟩ := C.store h1
  unfold trNw at h
  split at h
  · split at h
    · rename_i hc; cases h
      exact ps_set C.nd a b (vn_lst hc.1) (notComp_ok (by rfl)) f
    · cases h
  · split at h
    · rename_i hc tgc own ci h2 h3
      split at h
      · rename_i h5; cases h
        obtain ⟨h5, h6, h7⟩ := h5
        subst h5
        have q := (tg_ok (C.inner X.s_0 X.H_0 _ [] 0 []) h2).2
        refine vn_lc C.calm C.nd a b f ((snd n).i C h3) (by rw [C.N, C.sc]; exact blkOk_by h6) (fun i => by rw [q]) (fun s H Ca cl fp => (tg_ok (C.inner s H _ cl Ca fp) h2).1) (fun x => notSet_f h7 x) ?_
        exact sw_or hkf _ _ _ _
      · cases h
    · cases h
  · cases h

structure SndS (n : Nat) : Prop where
  dp : ∀ {X : Cx} {TB : Tbl} {W : Wn} {T : FT} {tc : Tc}, CxOk X W T tc → X.env.scope.kind = .function → tc.top = true → RefR X TB W T tc → ∀ {fr : Bool} {e : Stmt} {r : List Stmt} {c : CS}, trDeep n tc e r = some c → PSs X (e :: r) (tS X.K TB W T fr c)
  d : ∀ {X : Cx} {TB : Tbl} {W : Wn} {T : FT} {tc : Tc}, CxOk X W T tc → X.env.scope.kind = .function → tc.top = true → RefR X TB W T tc → ∀ {i : Nat} {e : Stmt} {c : CS}, trD n tc i e = some c → PS X e (tSD X.K TB W T i c)
  ds : ∀ {X : Cx} {TB : Tbl} {W : Wn} {T : FT} {tc : Tc}, CxOk X W T tc → X.env.scope.kind = .function → tc.top = true → RefR X TB W T tc → ∀ {i : Nat} {e : List Stmt} {c : CS}, trDs n tc i e = some c → PSs X e (tSD X.K TB W T i c)
  s : ∀ {X : Cx} {TB : Tbl} {W : Wn} {T : FT} {tc : Tc}, CxOk X W T tc → X.env.scope.kind = .function → tc.top = true → RefR X TB W T tc → ∀ {fr : Bool} {e : Stmt} {c : CS}, trS n tc e = some c → PS X e (tS X.K TB W T fr c)
  ss : ∀ {X : Cx} {TB : Tbl} {W : Wn} {T : FT} {tc : Tc}, CxOk X W T tc → X.env.scope.kind = .function → tc.top = true → RefR X TB W T tc → ∀ {fr : Bool} {e : List Stmt} {c : CS}, trSs n tc e = some c → PSs X e (tS X.K TB W T fr c)
section
variable {n : Nat} (S : SndS n)
include S
theorem snd_s {X : Cx} {TB : Tbl} {W : Wn} {T : FT} {tc : Tc} (C : CxOk X W T tc) (hkf : X.env.scope.kind = .function) (ht : tc.top = true) (Rf : RefR X TB W T tc) {fr : Bool} {e : Stmt} {c : CS} (h : trS (n + 1) tc e = some c) : PS X e (tS X.K TB W T fr c) := by
  have E := snd n
  unfold trS at h
  split at h
  · contradiction
  · cases h; exact vs_pass
  · cases h; exact vs_retN
  · rename_i heq; cases heq
    split at h
    · split at h
      · rename_i h1; cases h
        obtain ⟨a, b, c, d⟩ := C.slot h1
        exact vs_retV a b c d
      · split at h
        · rename_i h1; cases h; exact vs_ret (E.e C h1)
        · cases h
    · split at h
      · rename_i h1; cases h; exact vs_ret (E.e C h1)
      · cases h
  · rename_i heq; cases heq
    split at h
    · rename_i h1 h2
      split at h
      · rename_i h3; cases h
        obtain ⟨h3, h4, h5⟩ := h3
        subst h3
        obtain ⟨a, b, c, d⟩ := C.slot h1
        exact vs_app a b c d h4 h5 (E.e C h2)
      · split at h
        · rename_i h3; cases h
          obtain ⟨h3, h4, h5⟩ := h3
          subst h3
          obtain ⟨a, b, c, d⟩ := C.slot h1
          exact vs_ext a b c d h4 h5 (E.e C h2)
        · cases h
    · cases h
  · rename_i heq; cases heq
    split at h
    · rename_i h1 h2 h2'
      split at h
      · rename_i h3; cases h
        obtain ⟨h3, h4, h5, h6⟩ := h3
        subst h3
        obtain ⟨a, b, c, d⟩ := C.slot h1
        exact vs_ins a b c d h4 h5 h6 (E.e C h2) (E.e C h2')
      · cases h
    · cases h
  · rename_i heq; cases heq
    split at h
    · rename_i h1
      split at h
      · rename_i h2; cases h; exact vs_expr (E.e C h1) (notComp_ok h2)
      · cases h
    · cases h
  · rename_i heq; cases heq
    split at h
    · rename_i h1 h2
      split at h
      · cases h; exact asg_comp C hkf h1 h2
      · split at h
        · rename_i h3; cases h
          obtain ⟨a, b, f⟩ := C.store h1
          exact vs_asg C.nd a b f (E.e C h2) (notComp_ok h3)
        · cases h
    · cases h
  · rename_i heq; cases heq
    split at h
    · rename_i h1 h2
      split at h
      · rename_i h3; cases h
        rw [Bool.and_eq_true] at h3
        exact vs_asgT C.calm C.nd (names_ok C h1) (E.e C h2) (swso_ok h3.2) (swst_ok h3.1)
      · cases h
    · cases h
  · rename_i heq; cases heq
    split at h
    · rename_i h1 h2
      obtain ⟨a, b, f⟩ := C.store h1
      split at h
      · cases h; exact vs_augA C.nd a b f (E.e C h2)
      · cases h; exact vs_augS C.nd a b f (E.e C h2)
      · cases h
    · cases h
  · rename_i heq; cases heq
    split at h
    · rename_i h1 h2 h3; cases h; exact vs_if (E.t C h1) (S.ss C hkf ht Rf h2) (S.ss C hkf ht Rf h3)
    · rename_i h1 h2 h3
      split at h
      · rename_i h4; cases h; exact vs_ifR ((sndX C Rf n).t h4) (S.ss C hkf ht Rf h2) (S.ss C hkf ht Rf h3)
      · cases h
    · cases h
  · rename_i heq; cases heq
    split at h
    · rename_i h1 h2 h3
      split at h
      · rename_i h4; cases h
        exact vs_for (C.pass ht) C.calm (E.i C h2) (tg_ok C h1).1 (S.ss C hkf ht Rf h3) (fun x => notSet_f h4 x)
      · cases h
    · cases h
  · rename_i heq; cases heq
    split at h
    · rename_i h1 h2; cases h; exact vs_while (C.pass ht) (E.t C h1) (S.ss C hkf ht Rf h2)
    · cases h
  · rename_i heq; cases heq
    split at h
    · rename_i h1
      split at h
      · rename_i h2; cases h
        rw [Bool.and_eq_true] at h2
        obtain ⟨Ca, ok⟩ := C.excs _ _ h1
        exact vs_raise ok C.calm C.takes (C.gl h2.2) (nm_of h2.1).1
      · cases h
    · cases h
  · cases h
theorem snd_ss {X : Cx} {TB : Tbl} {W : Wn} {T : FT} {tc : Tc} (C : CxOk X W T tc) (hkf : X.env.scope.kind = .function) (ht : tc.top = true) (Rf : RefR X TB W T tc) {fr : Bool} {e : List Stmt} {c : CS} (h : trSs (n + 1) tc e = some c) : PSs X e (tS X.K TB W T fr c) := by
  unfold trSs at h
  split at h
  · contradiction
  · cases h; exact vs_nil
  · rename_i heq; cases heq; exact vs_one (S.s C hkf ht Rf h)
  · rename_i heq; cases heq
    split at h
    · rename_i h0; cases h; exact S.dp C hkf ht Rf h0
    · split at h
      · rename_i h1 h2; cases h; exact vs_cons (S.s C hkf ht Rf h1) (S.ss C hkf ht Rf h2)
      · cases h
theorem snd_dp {X : Cx} {TB : Tbl} {W : Wn} {T : FT} {tc : Tc} (C : CxOk X W T tc) (hkf : X.env.scope.kind = .function) (ht : tc.top = true) (Rf : RefR X TB W T tc) {fr : Bool} {e : Stmt} {r : List Stmt} {c : CS} (h : trDeep (n + 1) tc e r = some c) : PSs X (e :: r) (tS X.K TB W T fr c) := by
  have E := snd n
  unfold trDeep at h
  split at h
  · contradiction
  · rename_i heq; cases heq
    split at h
    · rename_i h1 h2 h3 h4
      split at h
      · rename_i h5 h6
        split at h
        · rename_i h7; cases h
          exact vs_deep (new_ok C hkf h1 h2) (C.pass ht) C.calm (E.i C h4) (tg_ok C h3).1 (S.ds C hkf ht Rf h5) (fun x => notSet_f h7 x) (S.ss C hkf ht Rf h6)
        · cases h
      · cases h
    · cases h
  · cases h
theorem snd_d {X : Cx} {TB : Tbl} {W : Wn} {T : FT} {tc : Tc} (C : CxOk X W T tc) (hkf : X.env.scope.kind = .function) (ht : tc.top = true) (Rf : RefR X TB W T tc) {i : Nat} {e : Stmt} {c : CS} (h : trD (n + 1) tc i e = some c) : PS X e (tSD X.K TB W T i c) := by
  have E := snd n
  unfold trD at h
  split at h
  · contradiction
  · rename_i heq; cases heq
    split at h
    · rename_i h1 h2 h3
      split at h
      · rename_i h4; cases h
        obtain ⟨h4, h5, h6, h7, h8⟩ := h4
        subst h4 h5
        obtain ⟨a, b, c, d⟩ := C.slot h1
        exact vd_app a b c d (plainIx_ok h8) h6 h7 (E.e C h2) (E.e C h3)
      · cases h
    · cases h
  · rename_i heq; cases heq
    split at h
    · rename_i h1 h2 h3; cases h; exact vd_if (E.t C h1) (S.ds C hkf ht Rf h2) (S.ds C hkf ht Rf h3)
    · cases h
  · rename_i heq; cases heq
    split at h
    · rename_i h1; cases h
      exact vd_leaf (fr := false) (fun env xs => rfl) (S.s C hkf ht Rf h1)
    · cases h
  · cases h
theorem snd_ds {X : Cx} {TB : Tbl} {W : Wn} {T : FT} {tc : Tc} (C : CxOk X W T tc) (hkf : X.env.scope.kind = .function) (ht : tc.top = true) (Rf : RefR X TB W T tc) {i : Nat} {e : List Stmt} {c : CS} (h : trDs (n + 1) tc i e = some c) : PSs X e (tSD X.K TB W T i c) := by
  unfold trDs at h
  split at h
  · contradiction
  · cases h; exact vd_nil
  · rename_i heq; cases heq
    split at h
    · rename_i h1 h2; cases h; exact vd_cons (S.d C hkf ht Rf h1) (S.ds C hkf ht Rf h2)
    · cases h
end
theorem sndS0 : SndS 0 where
  dp := fun C _ _ _ _ _ _ _ h => by unfold trDeep at h; cases h
  d := fun C _ _ _ _ _ _ h => by unfold trD at h; cases h
  ds := fun C _ _ _ _ _ _ h => by unfold trDs at h; cases h
  s := fun C _ _ _ _ _ _ h => by unfold trS at h; cases h
  ss := fun C _ _ _ _ _ _ h => by unfold trSs at h; cases h
theorem sndS : ∀ n, SndS n
  | 0 => sndS0
  | n + 1 => { s := fun C k t r _ _ _ h => snd_s (sndS n) C k t r h, ss := fun C k t r _ _ _ h => snd_ss (sndS n) C k t r h, dp := fun C k t r _ _ _ _ h => snd_dp (sndS n) C k t r h, d := fun C k t r _ _ _ h => snd_d (sndS n) C k t r h, ds := fun C k t r _ _ _ h => snd_ds (sndS n) C k t r h }
end L3

set_option Elab.async false
set_option linter.all false
set_option maxRecDepth 100000
set_option maxHeartbeats 4000000
/-! a def that tells an error's class, called within an except suite -/
namespace L3
open PySem PySem.Spec PyProof.Rows L2

/-! ### xs.count(y), flat items -/
section
variable {X : Cx}
def rCntV (K : PySem.W.Frag) : V → List V → Hp → VK → Prop := fun x xs H Q => ∃ (p : Addr) (ys : List V) (y : V), x = .ref p ∧ xs = [y] ∧ SqL K H p ys ∧ flatV y = true ∧ ys.all flatV = true ∧ Q (.int (ys.countP (fun z => eqV z y) : Nat)) H
theorem count_eqU {y : V} : ∀ {ys : List V} {us : List Value}, Vals ys us → ys.all flatV = true → us.countP (eqU y) = ys.countP fun z => eqV z y
  | _, _, .nil, _ => rfl
  | z :: ys, u :: us, .cons r t, f => by
    rw [List.all_cons, Bool.and_eq_true] at f
    rw [List.countP_cons, List.countP_cons, eqU_of r f.1, count_eqU t f.2]
theorem mt_cntV : MtR X "list.count" (rCntV X.K) := by
  intro pins s σ H x xs v us Q I rx rxs ⟨p, ys, y, ex, exs, hs, fy, fys, q⟩
  subst ex exs
  cases rx
  obtain ⟨u, eu, ru⟩ := rxs.one
  subst eu
  obtain ⟨its, rv, ⟨⟨cls, dd, data, sl⟩, n, ho, hc, hdn, hd⟩, _⟩ := I.list hs
  simp only at hc hd; subst hc hd
  refine call_meets PySem.F.slot_list_count ⟨_, ho, rfl⟩ PySem.F.entry_list_count (PySem.F.args_list_count_2 _ _) (SeqAt.list_countAt p its.toArray n dd sl u (eqU y)) ⟨ho, fun z hz => mem_eqAt ru fy rv fys z (by simpa using hz), ?_⟩
  have ec : its.toArray.toList.countP (eqU y) = ys.countP fun z => eqV z y := count_eqU rv fys
  refine ⟨.int (ys.countP (fun z => eqV z y) : Nat), H, I.tok _, ⟨s.toks, ?_⟩, q⟩
  show Value.int ((its.toArray.toList.countP (eqU y) : Nat) : Int) s.toks = _
  rw [ec]
end

/-! ### what its names hold -/
inductive KV where
  | exc | at_ (d : D) | lst (ds : List D)
def isExc : Option (Option KV) → Bool
  | some (some .exc) => true
  | _ => false
def blsD : List D → Option (List Bool)
  | [] => some []
  | .bool b :: r => (blsD r).map (b :: ·)
  | _ => none
def idxT : List Bool → Option Nat
  | [] => none
  | true :: _ => some 0
  | false :: r => (idxT r).map (· + 1)
abbrev KE := List (Option KV)
def KE.at1 (env : KE) : Option Nat → Option KV
  | some i => (env[i]?).join
  | none => none
mutual
def evK (tc : Tc) (is : List (Str × Bool)) (env : KE) : Nat → Expr → Option KV
  | 0, _ => none
  | n + 1, .Constant k _ _ => match cnD k with | some d => some (.at_ d) | none => none
  | n + 1, .Name x _ => env.at1 (tc.slot x)
  | n + 1, .List es _ => match evKs tc is env n es with | some ds => if ds.length ≤ 100 then some (.lst ds) else none | none => none
  | n + 1, .BinOp a .Add b _ => match evK tc is env n a, evK tc is env n b with
    | some (.lst xs), some (.lst ys) => if xs.length + ys.length ≤ 100 then some (.lst (xs ++ ys)) else none
    | _, _ => none
  | n + 1, .Subscript a b _ => match evK tc is env n a, evK tc is env n b with
    | some (.lst xs), some (.at_ (.int i)) => if plainIx b then (match L2.atI xs i with | some d => some (.at_ d) | none => none) else none
    | _, _ => none
  | n + 1, .Compare a [.NotEq] [b] _ => match evK tc is env n a, evK tc is env n b with
    | some (.at_ (.int i)), some (.at_ (.int j)) => if notSet b then some (.at_ (.bool (!(i == j)))) else none
    | _, _ => none
  | n + 1, .Call (.Name f _) [.Name e _, .Name c _] [] _ => if f = "isinstance" ∧ tc.gl f = true ∧ nmOk f = true ∧ nmOk c = true ∧ tc.gl c = true then (match tc.slot e, is.lookup c with
      | some i, some b => if isExc env[i]? then some (.at_ (.bool b)) else none
      | _, _ => none) else none
  | n + 1, .Call (.Attribute (.Name x _) m p2) [.Constant (.bool true) _ _] [] p3 => match env.at1 (tc.slot x) with
    | some (.lst ds) => if (p2.endLine == p3.line) = true then (match blsD ds with
      | some bs => if m = "count" then some (.at_ (.int (bs.countP id : Nat))) else if m = "index" then (match idxT bs with | some j => some (.at_ (.int (j : Nat))) | none => none) else none
      | none => none) else none
    | _ => none
  | _ + 1, _ => none
def evKs (tc : Tc) (is : List (Str × Bool)) (env : KE) : Nat → List Expr → Option (List D)
  | 0, _ => none
  | n + 1, [] => some []
  | n + 1, e :: es => match evK tc is env n e, evKs tc is env n es with
    | some (.at_ d), some ds => if notStar e then some (d :: ds) else none
    | _, _ => none
end
def evKT (tc : Tc) (is : List (Str × Bool)) (env : KE) : Nat → Expr → Option Bool
  | 0, _ => none
  | n + 1, .UnaryOp .Not a _ => match evKT tc is env n a with | some b => some (!b) | none => none
  | n + 1, .BoolOp .Or [a, b] _ => match evKT tc is env n a, evKT tc is env n b with | some x, some y => some (x || y) | _, _ => none
  | n + 1, .Compare a [.NotEq] [b] _ => match evK tc is env n a, evK tc is env n b with
    | some (.at_ (.int i)), some (.at_ (.int j)) => if notSet b then some (!(i == j)) else none
    | _, _ => none
  | n + 1, .Call a op b p => match evK tc is env n (.Call a op b p) with | some (.at_ (.bool b)) => some b | _ => none
  | _ + 1, _ => none
def exK (tc : Tc) (is : List (Str × Bool)) : Nat → KE → List Stmt → Option D
  | 0, _, _ => none
  | n + 1, env, [.Return (some e) _] => match evK tc is env 100 e with | some (.at_ d) => some d | _ => none
  | n + 1, env, .If e [.Return (some r) _] [] _ :: rest => match evKT tc is env 100 e, evK tc is env 100 r, exK tc is n env rest with
    | some b, some (.at_ d), some d' => some (if b then d else d')
    | _, _, _ => none
  | n + 1, env, .Assign [.Name x _] e _ :: rest => match tc.store x, evK tc is env 100 e with
    | some i, some kv => if notComp e && decide (i < env.length) then exK tc is n (env.set i (some kv)) rest else none
    | _, _ => none
  | _ + 1, _, _ => none

/-- what is known at a place of that def -/
structure KOk (X : Cx) (tc : Tc) (is : List (Str × Bool)) (a Dc : Addr) : Prop where
  sc : X.env.scope = tc.sc
  N : X.N = tc.N
  nd : X.N.Nodup
  fn : ∀ x, X.fn x = true
  units : X.A.units + 80 < cLine
  isi : X.mg "isinstance" = none
  cls : ∀ x b, is.lookup x = some b → ∃ (cv : V) (u : Value), PySem.W.kitOne X.K (.ref Dc) u = some b ∧ (∀ u', RelV cv u' ↔ u' = u) ∧ (X.mg x = some u ∨ (X.mg x = none ∧ bootBuiltins x = some u ∧ x ≠ "__name__"))
  isr : CallR X (.builtin "isinstance") (rIsE X.K Dc a)
def RepK (a : Addr) (H : Hp) : KV → V → Prop
  | .exc, v => v = .ref a
  | .at_ d, v => atom d = true ∧ v = toV d
  | .lst ds, v => ds.all atom = true ∧ ds.length ≤ 100 ∧ ∃ p, v = .ref p ∧ H p = some (.lst (ds.map toV))
structure SK (a : Addr) (env : KE) (σ : L2.St) (H : Hp) : Prop where
  len : σ.length = env.length
  at_ : ∀ (i : Nat) (kv : KV), env[i]? = some (some kv) → ∃ v, σ[i]? = some (some v) ∧ RepK a H kv v
theorem RepK.same {a : Addr} {H H' : Hp} {kv : KV} {v : V} (r : RepK a H kv v) (e : Same H H') : RepK a H' kv v := by
  cases kv with
  | exc => exact r
  | at_ d => exact r
  | lst ds => obtain ⟨h1, h2, p, h3, h4⟩ := r; exact ⟨h1, h2, p, h3, e _ _ h4⟩
theorem SK.ext {a : Addr} {env : KE} {σ : L2.St} {H H' : Hp} (S : SK a env σ H) (e : Same H H') : SK a env σ H' := ⟨S.len, fun i kv h => by
  obtain ⟨v, h1, h2⟩ := S.at_ i kv h
  exact ⟨v, h1, h2.same e⟩⟩
theorem SK.at1 {a : Addr} {env : KE} {σ : L2.St} {H : Hp} (S : SK a env σ H) {o : Option Nat} {kv : KV} (h : env.at1 o = some kv) : ∃ i v, o = some i ∧ σ[i]? = some (some v) ∧ RepK a H kv v := by
  cases o with
  | none => cases h
  | some i =>
    have h : (env[i]?).join = some kv := h
    cases q : env[i]? with
    | none => rw [q] at h; cases h
    | some w =>
      rw [q] at h
      change w = some kv at h
      subst h
      obtain ⟨v, h1, h2⟩ := S.at_ i kv q
      exact ⟨i, v, rfl, h1, h2⟩
def tK (a : Addr) (env : KE) (kv : KV) : TE := fun σ H Q => SK a env σ H ∧ ∀ v H', Same H H' → RepK a H' kv v → Q v H'
def tKs (a : Addr) (env : KE) (ds : List D) : TA := fun σ H Q => SK a env σ H ∧ ∀ H', Same H H' → ds.all atom = true → Q (ds.map toV) H'
def tKT (a : Addr) (env : KE) (b : Bool) : TT := fun σ H Q => SK a env σ H ∧ ∀ H', Same H H' → Q b H'
theorem cnD_atom {k : Const} {d : D} (h : cnD k = some d) : atom d = true := by
  unfold cnD at h
  split at h <;> cases h <;> rfl
theorem toV_bls : ∀ {ds : List D} {bs : List Bool}, blsD ds = some bs → ds.map toV = bs.map V.bl
  | [], bs, h => by cases h; rfl
  | d :: ds, bs, h => by
    cases d <;> first | (cases h; done) | skip
    rename_i b
    unfold blsD at h
    cases q : blsD ds with
    | none => rw [q] at h; cases h
    | some r => rw [q] at h; cases h; simp [toV_bls q, toV]
theorem flat_bls (bs : List Bool) : (bs.map V.bl).all flatV = true := by simp [flatV]
theorem cnt_bls : ∀ bs : List Bool, (bs.map V.bl).countP (fun z => eqV z (.bl true)) = bs.countP id
  | [] => rfl
  | b :: bs => by
    rw [List.map_cons, List.countP_cons, List.countP_cons, cnt_bls bs]
    cases b <;> rfl
theorem idx_bls : ∀ {bs : List Bool} {j : Nat}, idxT bs = some j → (bs.map V.bl)[j]? = some (V.bl true) ∧ ∀ (m : Nat) (z : V), m < j → (bs.map V.bl)[m]? = some z → eqV z (.bl true) = false
  | [], j, h => by cases h
  | true :: bs, j, h => by
    cases h
    exact ⟨rfl, fun m z h => absurd h (Nat.not_lt_zero _)⟩
  | false :: bs, j, h => by
    unfold idxT at h
    cases q : idxT bs with
    | none => rw [q] at h; cases h
    | some k =>
      rw [q] at h; cases h
      obtain ⟨h1, h2⟩ := idx_bls q
      refine ⟨by simpa using h1, fun m z hm hz => ?_⟩
      cases m with
      | zero => simp at hz; subst hz; rfl
      | succ m => exact h2 m z (Nat.lt_of_succ_lt_succ hm) (by simpa using hz)
section
variable {X : Cx} {tc : Tc} {is : List (Str × Bool)} {a Dc : Addr} {env : KE}
theorem KOk.slot (C : KOk X tc is a Dc) {x : Str} {i : Nat} (h : tc.slot x = some i) : X.N[i]? = some x ∧ Vis X.env.scope x ∧ (x == ("__debug__" : Str)) = false ∧ (x == ("__classdict__" : Str)) = false := by
  unfold Tc.slot at h
  split at h
  · rename_i hh
    simp only [nmOk, Bool.and_eq_true, Bool.not_eq_true', decide_eq_true_eq] at hh
    obtain ⟨⟨h1, h2, h3⟩, h4⟩ := hh
    refine ⟨by rw [C.N]; exact ixOf_at h, ?_, h1, h2⟩
    rw [C.sc]
    unfold Tc.vis at h4
    split at h4 <;> first | (cases h4; done) | exact .inl (by assumption) | exact .inr (.inl (by assumption)) | exact .inr (.inr (by assumption))
  · cases h
theorem KOk.store (C : KOk X tc is a Dc) {x : Str} {i : Nat} (h : tc.store x = some i) : X.N[i]? = some x ∧ L2.Loc X.env.scope x := by
  unfold Tc.store at h
  split at h
  · rename_i hh
    refine ⟨by rw [C.N]; exact ixOf_at h, ?_⟩
    rw [C.sc]
    unfold Tc.sto at hh
    split at hh <;> first | (cases hh; done) | exact .inl (by assumption) | exact .inr (by assumption)
  · cases h
theorem KOk.gl (C : KOk X tc is a Dc) {x : Str} (h : tc.gl x = true) : Gl X x := by
  unfold Tc.gl at h
  split at h
  · rename_i e
    show X.env.scope.names.lookup x = _
    rw [C.sc]; exact e
  · cases h
theorem atom_toV {d : D} (h : atom d = true) : RepK a H (.at_ d) (toV d) := ⟨h, rfl⟩
structure SndK (X : Cx) (tc : Tc) (is : List (Str × Bool)) (a : Addr) (env : KE) (n : Nat) : Prop where
  e : ∀ {e : Expr} {kv : KV}, evK tc is env n e = some kv → PE X e (tK a env kv)
  es : ∀ {es : List Expr} {ds : List D}, evKs tc is env n es = some ds → PA X es (tKs a env ds)
theorem sndK_name (C : KOk X tc is a Dc) {x : Str} {pos : Pos} {kv : KV} (h : env.at1 (tc.slot x) = some kv) : PE X (.Name x pos) (tK a env kv) := by
  cases hs : tc.slot x with
  | none => rw [hs] at h; cases h
  | some i =>
    rw [hs] at h
    obtain ⟨h1, h2, h3, h4⟩ := C.slot hs
    refine PE.imp (pe_var h1 h2 h3 h4) fun pins s σ H Q I ⟨S, q⟩ => ?_
    obtain ⟨j, v, ej, e1, r⟩ := S.at1 h
    cases ej
    exact ⟨v, e1, q v H (Same.refl _) r⟩
theorem sndK_e (C : KOk X tc is a Dc) {n : Nat} (S : SndK X tc is a env n) {e : Expr} {kv : KV} (h : evK tc is env (n + 1) e = some kv) : PE X e (tK a env kv) := by
  unfold evK at h
  split at h
  · contradiction
  · rename_i heq; cases heq
    split at h
    · rename_i hk; cases h
      have at_ := cnD_atom hk
      have go : ∀ {v : V} {k : Const} {j : Nat} {pos : Pos} {d : D}, toV d = v → atom d = true → PE X (.Constant k j pos) (tC v) → PE X (.Constant k j pos) (tK a env (.at_ d)) := fun ev ha hp =>
        PE.imp hp fun pins s σ H Q I ⟨S, q⟩ => q _ _ (Same.refl _) ⟨ha, ev.symm⟩
      unfold cnD at hk
      split at hk <;> cases hk
      · exact go rfl rfl pe_non
      · exact go rfl rfl pe_bl
      · exact go rfl rfl pe_int
      · exact go rfl rfl pe_str
    · cases h
  · rename_i heq; cases heq; exact sndK_name C h
  · rename_i heq; cases heq
    split at h
    · rename_i ds hs
      split at h
      · rename_i hl; cases h
        refine PE.imp (pe_lst (S.es hs)) fun pins s σ H Q I ⟨SS, q⟩ => ⟨SS, fun H1 e1 ha => ⟨?_, fun p hp => ?_⟩⟩
        · rw [List.length_map, sizeLine_eq]; omega
        · exact q _ _ (e1.trans (same_upd hp)) ⟨ha, hl, p, rfl, by simp [upd_same]⟩
      · cases h
    · cases h
  · rename_i heq; cases heq
    split at h
    · rename_i xs ys h1 h2
      split at h
      · rename_i hl; cases h
        refine PE.imp (pe_op op_cat (S.e h1) (S.e h2)) fun pins s σ H Q I ⟨SS, q⟩ => ⟨SS, fun v1 H1 e1 r1 => ⟨SS.ext e1, fun v2 H2 e2 r2 => ?_⟩⟩
        obtain ⟨a1, l1, p1, rfl, g1⟩ := r1
        obtain ⟨a2, l2, p2, rfl, g2⟩ := r2
        refine ⟨p1, p2, _, _, rfl, rfl, e2 _ _ g1, g2, ?_, fun p hp => q _ _ ((e1.trans e2).trans (same_upd hp)) ⟨?_, ?_, p, rfl, ?_⟩⟩
        · rw [List.length_map, List.length_map, sizeLine_eq]; omega
        · rw [List.all_append, a1, a2]; rfl
        · rw [List.length_append]; exact hl
        · rw [upd_same, List.map_append]
      · cases h
    · cases h
  · rename_i heq; cases heq
    split at h
    · rename_i xs i h1 h2
      split at h
      · rename_i hp
        split at h
        · rename_i d hd; cases h
          refine PE.imp (pe_ix ix_list (S.e h1) (S.e h2) (plainIx_ok hp)) fun pins s σ H Q I ⟨SS, q⟩ => ⟨SS, fun v1 H1 e1 r1 => ⟨SS.ext e1, fun v2 H2 e2 r2 => ?_⟩⟩
          obtain ⟨a1, l1, p1, rfl, g1⟩ := r1
          obtain ⟨a2, rfl⟩ := r2
          have hm : d ∈ xs := by
            unfold L2.atI at hd
            cases hx : L2.ixN xs.length i with
            | none => rw [hx] at hd; cases hd
            | some j => rw [hx] at hd; exact List.mem_of_getElem? hd
          refine ⟨p1, _, i, toV d, rfl, rfl, SqL.of (e2 _ _ g1), ?_, q _ _ (e1.trans e2) ⟨List.all_eq_true.mp a1 d hm, rfl⟩⟩
          unfold L2.atI at hd ⊢
          rw [List.length_map]
          cases hx : L2.ixN xs.length i with
          | none => rw [hx] at hd; cases hd
          | some j =>
            rw [hx] at hd
            change xs[j]? = some d at hd
            show (xs.map toV)[j]? = some (toV d)
            rw [List.getElem?_map, hd]; rfl
        · cases h
      · cases h
    · cases h
  · rename_i heq; cases heq
    split at h
    · rename_i i j h1 h2
      split at h
      · rename_i hn; cases h
        refine PE.imp (pe_cmpR op_ne (S.e h1) (S.e h2) (notSet_ok hn)) fun pins s σ H Q I ⟨SS, q⟩ => ⟨SS, fun v1 H1 e1 r1 => ⟨SS.ext e1, fun v2 H2 e2 r2 => ?_⟩⟩
        obtain ⟨_, rfl⟩ := r1
        obtain ⟨_, rfl⟩ := r2
        refine ⟨rfl, ?_⟩
        have e : decide (toV (PyData.int i) = toV (PyData.int j)) = (i == j) := dec_int
        rw [e]
        exact q _ _ (e1.trans e2) ⟨rfl, rfl⟩
      · cases h
    · cases h
  · rename_i heq; cases heq
    split at h
    · rename_i hc
      obtain ⟨hf, hg, hn, hn2, hg2⟩ := hc
      subst hf
      split at h
      · rename_i i b h1 h2
        split at h
        · rename_i h3; cases h
          obtain ⟨s1, s2, s3, s4⟩ := C.slot h1
          obtain ⟨cv, u, k1, k2, k3⟩ := C.cls _ _ h2
          have rcv : RelV cv u := (k2 u).mpr rfl
          obtain ⟨m1, m2, m3⟩ := nm_of hn
          obtain ⟨n1, n2, n3⟩ := nm_of hn2
          have hcl : ∀ {pos : Pos}, PE X (.Name _ pos) (tC cv) := fun {pos} => k3.elim (fun z => pe_glob (C.gl hg2) z rcv n1) fun z => pe_bltn (C.gl hg2) z.1 z.2.1 rcv z.2.2 n1
          refine PE.imp (pe_callB C.isr (C.gl hg) C.isi rfl (pa_cons (pe_var s1 s2 s3 s4) (pa_cons hcl pa_nil rfl) rfl) m3 m1 rfl rfl) fun pins s σ H Q I ⟨SS, q⟩ => ?_
          have he : env[i]? = some (some .exc) := by
            unfold isExc at h3
            split at h3
            · assumption
            · cases h3
          obtain ⟨v, e1, r⟩ := SS.at_ _ _ he
          cases r
          exact ⟨_, e1, cv, u, b, rfl, fun u' hu => (k2 u').mp hu, k1, q _ _ (Same.refl _) ⟨rfl, rfl⟩⟩
        · cases h
      · cases h
    · cases h
  · rename_i heq; cases heq
    split at h
    · rename_i ds hx
      split at h
      · rename_i hline
        split at h
        · rename_i bs hb
          split at h
          · rename_i hm; subst hm; cases h
            refine PE.imp (pe_bm PySem.F.plainAttrs_list PySem.F.slot_list_count PySem.F.type_list_count mt_cntV (sndK_name C hx) (pa_cons pe_bl pa_nil rfl) rfl rfl hline rfl rfl) fun pins s σ H Q I ⟨SS, q⟩ => ⟨SS, fun v1 H1 e1 r1 => ?_⟩
            obtain ⟨a1, l1, p1, rfl, g1⟩ := r1
            rw [toV_bls hb] at g1
            refine ⟨.inl ⟨rfl, _, SqL.of g1⟩, p1, _, .bl true, rfl, rfl, SqL.of g1, rfl, flat_bls bs, ?_⟩
            rw [cnt_bls]
            exact q _ _ e1 ⟨rfl, rfl⟩
          · split at h
            · rename_i hm; subst hm
              split at h
              · rename_i j hj; cases h
                refine PE.imp (pe_bm PySem.F.plainAttrs_list PySem.F.slot_list_index PySem.F.type_list_index mt_index (sndK_name C hx) (pa_cons pe_bl pa_nil rfl) rfl rfl hline rfl rfl) fun pins s σ H Q I ⟨SS, q⟩ => ⟨SS, fun v1 H1 e1 r1 => ?_⟩
                obtain ⟨a1, l1, p1, rfl, g1⟩ := r1
                rw [toV_bls hb] at g1
                obtain ⟨i1, i2⟩ := idx_bls hj
                exact ⟨.inl ⟨rfl, _, SqL.of g1⟩, p1, _, .bl true, j, .bl true, rfl, rfl, SqL.of g1, rfl, flat_bls bs, i1, rfl, i2, q _ _ e1 ⟨rfl, rfl⟩⟩
              · cases h
            · cases h
        · cases h
      · cases h
    · cases h
  · cases h
theorem sndK_es (C : KOk X tc is a Dc) {n : Nat} (S : SndK X tc is a env n) {es : List Expr} {ds : List D} (h : evKs tc is env (n + 1) es = some ds) : PA X es (tKs a env ds) := by
  unfold evKs at h
  split at h
  · contradiction
  · cases h
    exact ⟨fun pos pins s σ H Q I ⟨SS, q⟩ => pa_nil.run pos pins s σ H Q I (q H (Same.refl _) rfl)⟩
  · rename_i heq; cases heq
    split at h
    · rename_i d ds' h1 h2
      split at h
      · rename_i hn; cases h
        refine ⟨fun pos pins s σ H Q I ⟨SS, q⟩ => (pa_cons (S.e h1) (S.es h2) (star_cons hn)).run pos pins s σ H Q I ⟨SS, fun v1 H1 e1 r1 => ⟨SS.ext e1, fun H2 e2 ha => ?_⟩⟩⟩
        obtain ⟨a1, rfl⟩ := r1
        exact q H2 (e1.trans e2) (by rw [List.all_cons, a1, ha]; rfl)
      · cases h
    · cases h
theorem sndK (C : KOk X tc is a Dc) : ∀ n, SndK X tc is a env n
  | 0 => { e := fun h => (by unfold evK at h; cases h), es := fun h => (by unfold evKs at h; cases h) }
  | n + 1 => ⟨sndK_e C (sndK C n), sndK_es C (sndK C n)⟩
theorem sndK_t (C : KOk X tc is a Dc) : ∀ (n : Nat) {e : Expr} {b : Bool}, evKT tc is env n e = some b → PT X e (tKT a env b)
  | 0, e, b, h => by unfold evKT at h; cases h
  | n + 1, e, b, h => by
    have val : ∀ {e : Expr} {b : Bool}, (∀ whole, isTrue e X.env whole = (do let v ← whole; standAt e.pos; holding [v] (truthy v))) → evK tc is env n e = some (.at_ (.bool b)) → PT X e (tKT a env b) := fun {e b} he h =>
      PT.imp (pt_val ((sndK C n).e h) he) fun pins s σ H Q I ⟨SS, q⟩ => ⟨SS, fun v1 H1 e1 r1 => by
        obtain ⟨_, rfl⟩ := r1
        exact ⟨b, rfl, q H1 e1⟩⟩
    unfold evKT at h
    split at h
    · contradiction
    · rename_i heq; cases heq
      split at h
      · rename_i b' h1; cases h
        refine PT.imp (pt_not (sndK_t C n h1)) fun pins s σ H Q I ⟨SS, q⟩ => ⟨SS, fun H1 e1 => ?_⟩
        exact q H1 e1
      · cases h
    · rename_i heq; cases heq
      split at h
      · rename_i x y h1 h2; cases h
        refine PT.imp (pw_or (sndK_t C n h1) (pw_or1 (sndK_t C n h2))).pt fun pins s σ H Q I ⟨SS, q⟩ => ⟨SS, fun H1 e1 => ?_⟩
        cases x with
        | true => exact iteT (q H1 e1)
        | false => exact iteF ⟨SS.ext e1, fun H2 e2 => q H2 (e1.trans e2)⟩
      · cases h
    · rename_i heq; cases heq
      split at h
      · rename_i i j h1 h2
        split at h
        · rename_i hn; cases h
          refine PT.imp (pt_cmpR op_ne ((sndK C n).e h1) ((sndK C n).e h2) (notSet_ok hn)) fun pins s σ H Q I ⟨SS, q⟩ => ⟨SS, fun v1 H1 e1 r1 => ⟨SS.ext e1, fun v2 H2 e2 r2 => ?_⟩⟩
          obtain ⟨_, rfl⟩ := r1
          obtain ⟨_, rfl⟩ := r2
          refine ⟨rfl, _, ?_, q _ (e1.trans e2)⟩
          have e : decide (toV (PyData.int i) = toV (PyData.int j)) = (i == j) := dec_int
          rw [e]
        · cases h
      · cases h
    · rename_i heq; cases heq
      split at h
      · rename_i b' h1; cases h; exact val (fun _ => rfl) h1
      · cases h
    · cases h
end
/-! ### its statements -/
def tKS (a : Addr) (env : KE) (d : D) : TS := fun D σ H => SK a env σ H ∧ ∀ H', Same H H' → D.rt (toV d) H'
theorem SK.set {a : Addr} {env : KE} {σ : L2.St} {H : Hp} (S : SK a env σ H) {i : Nat} {kv : KV} {v : V} (r : RepK a H kv v) : SK a (env.set i (some kv)) (σ.set i (some v)) H where
  len := by rw [List.length_set, List.length_set, S.len]
  at_ := fun j kv' h => by
    by_cases hj : i = j
    · subst hj
      have hi : i < env.length := by simpa using (List.getElem?_eq_some_iff.mp h).1
      rw [List.getElem?_set_self hi] at h
      cases h
      exact ⟨v, List.getElem?_set_self (by rw [S.len]; exact hi), r⟩
    · rw [List.getElem?_set_ne hj] at h
      obtain ⟨v', h1, h2⟩ := S.at_ j kv' h
      exact ⟨v', by rw [List.getElem?_set_ne hj]; exact h1, h2⟩
section
variable {X : Cx} {tc : Tc} {is : List (Str × Bool)} {a Dc : Addr}
theorem sndK_s (C : KOk X tc is a Dc) : ∀ (n : Nat) {env : KE} {sts : List Stmt} {d : D}, exK tc is n env sts = some d → PSs X sts (tKS a env d)
  | 0, env, sts, d, h => by unfold exK at h; cases h
  | n + 1, env, sts, d, h => by
    unfold exK at h
    split at h
    · contradiction
    · rename_i heq; cases heq
      split at h
      · rename_i h1; cases h
        refine PSs.imp (pss_one (ps_ret ((sndK C 100).e h1))) fun pins s σ H Dd I ⟨SS, q⟩ => ⟨SS, fun v H1 e1 r1 => ?_⟩
        obtain ⟨_, rfl⟩ := r1
        exact q H1 e1
      · cases h
    · rename_i heq; cases heq
      split at h
      · rename_i b d1 d2 h1 h2 h3; cases h
        refine PSs.imp (pss_cons (ps_if (sndK_t C 100 h1) (pss_one (ps_ret ((sndK C 100).e h2))) pss_nil) (sndK_s C n h3)) fun pins s σ H Dd I ⟨SS, q⟩ => ⟨SS, fun H1 e1 => ?_⟩
        cases b with
        | true =>
          refine iteT ⟨SS.ext e1, fun v H2 e2 r2 => ?_⟩
          obtain ⟨_, rfl⟩ := r2
          exact q H2 (e1.trans e2)
        | false => exact iteF ⟨SS.ext e1, fun H2 e2 => q H2 (e1.trans e2)⟩
      · cases h
    · rename_i heq; cases heq
      split at h
      · rename_i i kv h1 h2
        split at h
        · rename_i hc
          rw [Bool.and_eq_true] at hc
          obtain ⟨a1, a2⟩ := C.store h1
          refine PSs.imp (pss_cons (ps_set C.nd a1 a2 ((sndK C 100).e h2) (notComp_ok hc.1) (.inl (C.fn _))) (sndK_s C n h)) fun pins s σ H Dd I ⟨SS, q⟩ => ⟨SS, fun v H1 e1 r1 => ⟨(SS.ext e1).set r1, fun H2 e2 => q H2 (e1.trans e2)⟩⟩
        · cases h
      · cases h
    · cases h
end

/-! ### the call within an except suite -/
/-- that def's own context, entered where a's object oe is handled -/
abbrev hotCx (X : Cx) (N : List Str) (x : Str) (st : Stmt) (f : Addr) (cdv : Value) (s : Shared) (H : Hp) (p : Addr × Obj) : Cx := L2H.cxH C8.CX0 X.prog X.w X.K X.mg X.base N x (defScope st) f cdv X.A X.stack s H C8.E0 p
/-- g(e): g the def that tells the class of what the suite holds -/
theorem pe_cls {X : Cx} {K' : Nat} {g : Str} {N : List Str} {y e : Str} {st : Stmt} {f : Addr} {fd : FuncData} {p : Addr × Obj} {i : Nat} {w : Str} {q q2 pos : Pos} (F : Fun X.K g g st f fd) (S : FnScope N [y] (defScope st)) (hp : p ∈ X.pn) (hr : L2H.RoomH (K' + 1) X.A)
    (hg : Gl X g) (hm : X.mg g = some (.ref f)) (hdb : (g == ("__debug__" : Str)) = false) (hb : Binds X.K fd [y] []) (he : X.N[i]? = some e) (hv : Vis X.env.scope e) (hd : (e == ("__debug__" : Str)) = false) (hcd : (e == ("__classdict__" : Str)) = false)
    (body : ∀ (cdv : Value) (s : Shared) (H : Hp), L2H.RoomH K' (X.A.deeper (envOfC g (defScope st) s.heap.objs.size f cdv)) →
      ∃ t, PSs (hotCx X N g st f cdv s H p) (defBody st) t ∧ ∀ (D : Ends), (∀ H', Same H H' → D.rt (.str w) H') → t D (L2.start N [.ref p.1]) H) :
    PE X (.Call (.Name g q) [.Name e q2] [] pos) (fun σ H Q => σ[i]? = some (some (.ref p.1)) ∧ ∀ H', Same H H' → Q (.str w) H') := by
  refine ⟨fun pins s σ H Q I ⟨hσ, hQ⟩ => ?_⟩
  obtain ⟨oc, od, kV, doc, pm, an, cdv, ct, osl, efd, lk, hcode⟩ := F.ex
  refine wpAny_Call_Name_kw (ld_glob I hg hm ?_ hdb)
  refine PySem.W.callWith_K (h₀ := X.base) I.ok.mod.kin F.kp (thn ((pa_cons (pe_var he hv hd hcd) pa_nil rfl).run pos pins s σ H (fun vs H1 => vs = [.ref p.1] ∧ H1 = H) I ⟨_, hσ, rfl, rfl⟩) fun us s1 ⟨vs, H1, I1, r, ev, eH⟩ => ⟨I1.kIn, ?_⟩) rfl rfl
  subst ev eH
  obtain ⟨u, eu, ru⟩ := r.one
  subst eu
  obtain ⟨pg, pf, pl, ps, pc⟩ := I1.pin p (List.mem_append_left _ hp)
  have bd := hb s1 [u] I1.kIn rfl
  rw [List.append_nil] at bd
  have hpin : L2H.PinOk X.stack H1 s1 p := ⟨pg, pf, fun hm => (List.mem_cons.mp (I1.stkSub p.1 hm)).elim pl ps, pc⟩
  have e0 := I1.env0
  have kin : X.K.In s1.heap := I1.kIn
  have nolim : s1.heap.NoLimit := e0.mod.nolimit.keeps fun b o e => (e0.bs b o e).1
  have kinds : ∀ z ∈ [y].zip [u], (defScope st).names.lookup z.1 = some .local ∨ ((defScope st).names.lookup z.1 = some .cell ∧ ((cellsFrom (s1.heap.objs.size + 1) (defScope st).names []).lookup z.1).isSome = true) := fun z hz => by
    have ez : z = (y, u) := by simpa using hz
    rw [ez]
    rcases S.par y List.mem_cons_self with k | k
    · exact .inl k
    · exact .inr ⟨k, PySem.W.cellsFrom_some _ _ _ (.inl k)⟩
  have rc : codeAny (model X.prog X.w) X.A (.call (.ref f) ⟨[u], []⟩) (CR C8.CX0 X.stack X.prog X.w H1 s1 Q C8.E0) s1 := by
    subst efd
    refine codeAny_call_function hr.depth (kin _ _ lk) rfl S.co S.gen rfl (PySem.W.codeRec_of kin hcode) (bd _ _ _ _ ?_)
    refine wpAny_newFunctionEnv_cells S.kind kinds fun env hen s2 hx => ?_
    subst hen
    obtain ⟨t, ht, hq⟩ := body cdv s1 H1 (hr.deeper _)
    have J : Inv (hotCx X N g st f cdv s1 H1 p) [] (L2.start N [.ref p.1]) H1 s2 := L2H.inv_startH S hpin e0 rfl (.cons ru .nil) hx
    refine ⟨nolim.keeps hx.toInCall.keep, codeAny_func (wpAny_mono (ht.run [] s2 _ H1 { nx := fun _ _ => False, rt := Q } J (hq _ hQ)) (fun fl s3 h3 => ?_) fun e3 s3 h3 => h3)⟩
    cases fl with
    | ret u3 =>
      obtain ⟨v3, σ3, H3, J3, r3, q3⟩ := h3
      exact ⟨v3, H3, J3.os, J3.bare, J3.base, J3.hok, r3, q3⟩
    | next => obtain ⟨_, _, _, z⟩ := h3; exact z.elim
    | brk => obtain ⟨_, _, _, z⟩ := h3; exact z.elim
    | cont => obtain ⟨_, _, _, z⟩ := h3; exact z.elim
  refine wpAny_call (codeAny_mono rc fun r3 s3 h3 => ?_)
  cases r3 with
  | error e3 => exact (show False from h3).elim
  | ok fl =>
    cases fl with
    | ret u3 => exact I1.after h3
    | next => exact False.elim h3
    | brk => exact False.elim h3
    | cont => exact False.elim h3
end L3

set_option Elab.async false
set_option linter.all false
set_option maxRecDepth 100000
set_option maxHeartbeats 4000000
/-! f(lambda: e), f a def that tries what it got and tells the error's class -/
namespace L3
open PySem PySem.Spec PyProof.Rows L2

/-- isinstance of a pinned error -/
theorem call_isP {X : Cx} {Dc : Addr} {p : Addr × Obj} (C : ExcC X.K Dc) (hz : Zc (.ref Dc) none p.2) (hf : ∃ vs, p.2.data = .fields vs) (hp : p ∈ X.pn) : CallR X (.builtin "isinstance") (rIsE X.K Dc p.1) := by
  intro pins s σ H xs us Q I r ⟨c, cv, b, exs, hcv, e, q⟩
  obtain ⟨pa, ⟨poc, pod, poda, posl⟩⟩ := p
  subst exs
  cases r with
  | cons rx rr =>
    cases rx
    cases rr with
    | cons ru r2 =>
    cases r2
    rename_i u
    rw [hcv u ru]
    obtain ⟨vs, hv⟩ := hf
    obtain ⟨z1, z2⟩ := hz
    dsimp only at z1 z2 hv
    subst z1 z2 hv
    have J : PySem.W.InstAt s.heap pa ⟨.ref Dc, none, .fields vs, posl⟩ Dc none := ⟨(I.pin _ (List.mem_append_left _ hp)).1, rfl, rfl, trivial⟩
    exact PySem.W.kia_one (PySem.W.handS_kitx_exc C.hg C.hk C.hs C.hd C.ha C.hn C.ht C.hm) I.kIn J e (fun z => by cases z) fun tk => ⟨.bl b, H, I.kept (t' := tk) (fun _ _ z => z), rfl, q⟩

structure RefI where
  a : Str
  word : Str
  err : Str
  few : Str
  cls : Str
/-- word = "told"; try: a(); except few as err: word = cls(err); return word -/
def refOf : List Stmt → Option RefI
  | [.Assign [.Name word _] (.Constant (.str told) _ _) _, .Try [.Expr (.Call (.Name a _) [] [] _) _] [.ExceptHandler (some (.Name few _)) (some err) [.Assign [.Name word2 _] (.Call (.Name cls _) [.Name err2 _] [] _) _] _] [] [] _, .Return (some (.Name word3 _)) _] =>
    if word2 = word ∧ word3 = word ∧ err2 = err ∧ told = "told" then some ⟨a, word, err, few, cls⟩ else none
  | _ => none
/-- what is wished of the lambda's reading -/
def TTw (mg : Str → Option Value) (ws : List (String × Str)) : (XK → Hp → VK → Prop) → Hp → VK → Prop := fun tl H Q =>
  tl (fun cls d H' => ∃ n C w, mg (Str.ofString n) = some (.ref C) ∧ cls = .ref C ∧ d = none ∧ ws.lookup n = some w ∧ ∀ H'', Same H' H'' → Q (.str w) H'') H fun _ H' => Q (.str "told") H'
/-- the names of that def -/
def refSc (r : RefI) (sg : Scope) : Bool :=
  decide (sg.names.lookup r.a = some .local) && (decide (sg.names.lookup r.word = some .local) && (decide (sg.names.lookup r.err = some .local) && (decide (sg.names.lookup r.few = some .globalImplicit) && (decide (sg.names.lookup r.cls = some .globalImplicit) &&
    (nmOk r.a && (nmOk r.word && (nmOk r.err && (nmOk r.few && nmOk r.cls))))))))
/-- what the class of the error that is told as w answers -/
structure WordOk (K : PySem.W.Frag) (mg : Str → Option Value) (CF : Addr) (stC : Stmt) (NC : List Str) (w : Str) (C : Addr) : Prop where
  ex : ExcC K C
  m : PySem.W.exmOne K (.ref C) (.ref CF) = some true
  is : ∃ is : List (Str × Bool), exK ⟨defScope stC, NC, true, [], [], [], [], none⟩ is 100 (some .exc :: (NC.drop 1).map fun _ => none) (defBody stC) = some (.str w) ∧
    ∀ x b, is.lookup x = some b → ∃ (cv : V) (u : Value), PySem.W.kitOne K (.ref C) u = some b ∧ (∀ u', RelV cv u' ↔ u' = u) ∧ (mg x = some u ∨ (mg x = none ∧ bootBuiltins x = some u ∧ x ≠ "__name__"))
/-- the def that tells the class -/
structure ClsOk (K : PySem.W.Frag) (mg : Str → Option Value) (cls : Str) (stC : Stmt) (NC : List Str) (y : Str) : Prop where
  S : FnScope NC [y] (defScope stC)
  fn : ∃ f fd, Fun K cls cls stC f fd ∧ mg cls = some (.ref f) ∧ Binds K fd [y] []
  isi : mg "isinstance" = none
theorem start1 {N : List Str} {v : V} {y : Str} (h : N.take 1 = [y]) : L2.start N [v] = some v :: (N.drop 1).map fun _ => none := by
  cases N with
  | nil => cases h
  | cons a r =>
    show some v :: List.replicate (r.length + 1 - 1) none = _
    rw [Nat.add_sub_cancel]
    simp [List.map_const']
theorem sk_start {N : List Str} {a : Addr} {y : Str} {H : Hp} (h : N.take 1 = [y]) : SK a (some .exc :: (N.drop 1).map fun _ => none) (L2.start N [.ref a]) H where
  len := by rw [start1 h]; simp
  at_ := fun i kv e => by
    rw [start1 h]
    cases i with
    | zero => cases e; exact ⟨_, rfl, rfl⟩
    | succ i =>
      simp only [List.getElem?_cons_succ, List.getElem?_map] at e
      cases q : (N.drop 1)[i]? with
      | none => rw [q] at e; cases e
      | some z => rw [q] at e; cases e
theorem takes_len {X : Cx} {W : WX} (tk : Takes X W) : Takes X fun cls d σ H => σ.length = X.N.length → W cls d σ H := fun u s' x => by
  obtain ⟨a, B, sI, pins, σ, H, cls, d, e, I, nb, up, sky, na, os, ag, w⟩ := x
  exact tk u s' ⟨a, B, sI, pins, σ, H, cls, d, e, I, nb, up, sky, na, os, ag, w I.len⟩
section
variable {X : Cx} {x q : Str} {sg : Scope} {g : Addr} {cdg : Value} {bg : List Stmt} {r : RefI} {ws : List (String × Str)} {CF : Addr} {stC : Stmt} {NC : List Str} {y : Str} {k : Nat}
theorem ref_gives (hbg : refOf bg = some r) (hsc : refSc r sg = true) (nd : [r.a, r.word, r.err].Nodup) (hmF : X.mg r.few = some (.ref CF)) (Ck : ClsOk X.K X.mg r.cls stC NC y) (hr : Room (k + 2) X.A)
    (hw : ∀ n w C, ws.lookup n = some w → X.mg (Str.ofString n) = some (.ref C) → WordOk X.K X.mg CF stC NC w C) : LamX.GivesTo X [r.a, r.word, r.err] x sg g cdg bg r.a q (TTw X.mg ws) := by
  intro f c' s H Q tl act hc h
  simp only [refSc, Bool.and_eq_true, decide_eq_true_eq] at hsc
  obtain ⟨s1, s2, s3, s4, s5, n1, n2, n3, n4, n5⟩ := hsc
  obtain ⟨fC, fdC, FC, mC, bC⟩ := Ck.fn
  have hr2 := hr.deeper (envOfC x sg s.heap.objs.size g cdg)
  unfold refOf at hbg
  split at hbg
  · rename_i word q1 told j q2 q3 a q4 q5 q6 few q7 err word2 q8 cls q9 err2 q10 q11 q12 q13 q14 word3 q15 q16
    split at hbg
    · rename_i hh
      obtain ⟨rfl, rfl, rfl, rfl⟩ := hh
      cases hbg
      dsimp only at *
      let Y : Cx := (cxOf C8.CX0 X.prog X.w X.K X.mg X.base [a, word3, err2] x sg g cdg X.A X.stack s H C8.E0).nox
      let Ech : XK := fun cls d H' => ∃ n C w, X.mg (Str.ofString n) = some (.ref C) ∧ cls = .ref C ∧ d = none ∧ ws.lookup n = some w ∧ ∀ H'', Same H' H'' → Q (.str w) H''
      have body : ∀ (W : WX) (pn : List (Addr × Obj)) (xe : Value → Shared → Prop), Takes (Y.tr pn xe) W → PassesOwn (model Y.prog Y.w) Y.A Y.env xe →
          PSs (Y.tr pn xe) [.Expr (.Call (.Name a q4) [] [] q5) q6] (fun D σ H' => (∀ cls d σ' H', σ'.length = 3 → Ech cls d H' → W cls d σ' H') ∧ σ[0]? = some (some (.ref f)) ∧ H' c' = some (LamX.CodeO c' q) ∧ tl Ech H' fun v H2 => D.nx σ H2) := fun W pn xe tk _ => by
        refine ⟨fun pins s' σ H' D I ⟨hW, h1, h2, h3⟩ => ?_⟩
        have hp := act _ pn xe Ech q4 q5 (takes_len tk) fun cls d σ' H' h hl => hW cls d σ' H' hl h
        exact (pss_one (ps_expr (pos := q6) hp rfl)).run pins s' σ H' D I ⟨h1, h2, h3⟩
      have suite : ∀ (a1 : Addr) (oe : Obj) (cls' : Value) (d : Option Addr) (pn : List (Addr × Obj)), Zc cls' d oe → (∃ vs, oe.data = .fields vs) →
          PSs (Y.suite a1 ((a1, oe) :: pn)) [.Assign [.Name word3 q8] (.Call (.Name cls q9) [.Name err2 q10] [] q11) q12] (fun D σ H' => σ[2]? = some (some (.ref a1)) ∧ ∃ n C w, X.mg (Str.ofString n) = some (.ref C) ∧ cls' = .ref C ∧ d = none ∧ ws.lookup n = some w ∧
            ∀ H'', Same H' H'' → D.nx (σ.set 1 (some (.str w))) H'') := fun a1 oe cls' d pn hz hf => by
        refine ⟨fun pins s' σ H' D I ⟨h1, n, C, w, e1, e2, e3, e4, e5⟩ => ?_⟩
        subst e2 e3
        have wk := hw n w C e4 e1
        obtain ⟨is, hx, his⟩ := wk.is
        have hR : L2H.RoomH (k + 1) (Y.suite a1 ((a1, oe) :: pn)).A := ⟨hr2.dp, hr2.un⟩
        have P := pe_cls (X := Y.suite a1 ((a1, oe) :: pn)) (K' := k) (N := NC) (p := (a1, oe)) (i := 2) (w := w) (q := q9) (q2 := q10) (pos := q11) FC Ck.S List.mem_cons_self hR s5 mC (nm_of n5).1 bC rfl (.inl s3) (nm_of n3).1 (nm_of n3).2.1 fun cdv s2 H2 hr3 => by
          refine ⟨_, sndK_s (X := hotCx (Y.suite a1 ((a1, oe) :: pn)) NC cls stC fC cdv s2 H2 (a1, oe)) (Dc := C) (a := a1) { sc := rfl, N := rfl, nd := Ck.S.nd, fn := fun _ => rfl, units := ?_, isi := Ck.isi, cls := his, isr := call_isP (X := hotCx (Y.suite a1 ((a1, oe) :: pn)) NC cls stC fC cdv s2 H2 (a1, oe)) (p := (a1, oe)) wk.ex hz hf List.mem_cons_self } 100 hx, fun D hD => ⟨sk_start Ck.S.pre, hD⟩⟩
          have := hr3.un
          show (Around.deeper _ _).units + 80 < cLine
          omega
        exact (pss_one (ps_set (X := Y.suite a1 ((a1, oe) :: pn)) (pos := q12) (pos' := q8) nd (i := 1) rfl (.inl s2) P rfl (.inl rfl))).run pins s' σ H' D I ⟨h1, e5⟩
      refine ⟨_, pss_cons (ps_set (X := Y) (i := 1) nd rfl (.inl s2) pe_str rfl (.inl rfl)) (pss_cons (ps_try_as (X := Y) (i := 2) (c := .ref CF) rfl rfl nd rfl s3 ⟨s4, (nm_of n4).1, .inl hmF⟩ LamX.takes0 body suite) (pss_one (ps_ret (pe_var (i := 1) (X := Y) rfl (.inl s2) (nm_of n2).1 (nm_of n2).2.1)))), ?_⟩
      refine ⟨fun cls' d σ' H' hl ⟨n, C, w, e1, e2, e3, e4, e5⟩ => ⟨true, ?_, fun _ a1 na => ⟨?_, n, C, w, e1, e2, e3, e4, fun H'' e => ⟨_, ?_, e5 H'' e⟩⟩, fun z => by cases z⟩, rfl, hc, ?_⟩
      · subst e2; exact (hw n w C e4 e1).m
      · exact List.getElem?_set_self (by omega)
      · rw [List.getElem?_set_ne (by decide), List.getElem?_set_self (by simp; omega)]
      · have eq : (fun (v : V) (H2 : Hp) => ∃ v', ((L2.start [a, word3, err2] [V.ref f]).set 1 (some (.str "told")))[1]? = some (some v') ∧ Q v' H2) = fun (_ : V) H2 => Q (.str "told") H2 := by
          funext v H2
          refine propext ⟨fun ⟨v', e, q⟩ => ?_, fun q => ⟨_, rfl, q⟩⟩
          cases e
          exact q
        show tl Ech H (fun (v : V) (H2 : Hp) => ∃ v', ((L2.start [a, word3, err2] [V.ref f]).set 1 (some (.str "told")))[1]? = some (some v') ∧ Q v' H2)
        rw [eq]
        exact h
    · cases hbg
  · cases hbg
end

section
variable {X : Cx} {W : Wn} {T : FT} {tc : Tc} {k : Nat}
/-- the calls at a place, all with the same room -/
def CallsAt (X : Cx) (T : FT) (tc : Tc) (k : Nat) : Prop := ∀ x key, tc.calls.lookup x = some key → ∃ (f : Addr) (fd : FuncData) (ps : List Str), FnOk X.prog X.w X.K X.mg X.base (L2.CX X.prog X.w) k f fd ps (spD X.K X.mg (T.f key) (T.fr key)) ∧ X.mg x = some (.ref f) ∧ PySem.W.keepIn X.K (.ref f) = true ∧ Binds X.K fd ps []
def WE (mg : Str → Option Value) (E : XK) : Wn := fun n H' => ∀ C, mg (Str.ofString n) = some (.ref C) → E (.ref C) none H'
theorem lam_ctx (C : CxOk X W T tc) (hc : CallsAt X T tc k) {A : Around} {outer : List PySem.Env} {s : Shared} {H : Hp} {E : XK} {scope : Scope} {f c' : Addr} (hr : Room k (A.deeper (LamX.lamEnv X scope s.heap.objs.size f c'))) :
    CxOk (LamX.lamCx X A outer s H E scope f c') (WE X.mg E) T (tc.lam scope) where
  sc := rfl
  N := C.N
  nd := C.nd
  calm := rfl
  fn := fun h => by cases h
  pass := fun h => by cases h
  takes := (takes_of (X := LamX.lamCx X A outer s H E scope f c') rfl rfl rfl rfl).imp fun c d _ H' ⟨n, Ca, h1, h2, h3, h4⟩ => by
    subst h2 h3
    exact h4 Ca h1
  units := by
    have := hr.un
    show (A.deeper _).units + 80 < cLine
    omega
  calls := fun x key h => by
    obtain ⟨f, fd, ps, a, b, c, d⟩ := hc x key h
    exact ⟨k, f, fd, ps, a, hr, b, c, d⟩
  consts := C.consts
  excs := fun x n h => by
    obtain ⟨c, e⟩ := C.excs x n h
    exact ⟨c, ⟨e.name, e.gC, e.xC, e.kC, e.bC, e.tC⟩⟩
  bns := C.bns
/-- the def that tries what it got, in the module -/
structure RefM (K : PySem.W.Frag) (mg : Str → Option Value) (x : Str) (ws : List (String × Str)) : Prop where
  m : ∃ (st : Stmt) (g : Addr) (fd : FuncData) (r : RefI) (CF : Addr) (stC : Stmt) (NC : List Str) (y : Str), Fun K x x st g fd ∧ mg x = some (.ref g) ∧ Binds K fd [r.a] [] ∧ FnScope [r.a, r.word, r.err] [r.a] (defScope st) ∧ refOf (defBody st) = some r ∧ refSc r (defScope st) = true ∧
    mg r.few = some (.ref CF) ∧ ClsOk K mg r.cls stC NC y ∧ ∀ n w C, ws.lookup n = some w → mg (Str.ofString n) = some (.ref C) → WordOk K mg CF stC NC w C
  nm : nmOk x = true
theorem refR_ok {x : Str} {ws : List (String × Str)} {P c : Addr} (C : CxOk X W T tc) (hrefs : tc.refs = some (x, ws)) (hc : CallsAt X T tc k) (hr : Room (k + 3) X.A) (M : RefM X.K X.mg x ws) (hgl : tc.gl x = true) (TBb : LamX.TabB X.base X.mg c P) (hcode : X.env.code = .ref c) :
    RefR X [(P, X.env.qual ++ "<lambda>")] W T tc := by
  intro x' ws' e n p lpos pos params scope body ce hl hb
  rw [hrefs] at e
  cases e
  obtain ⟨st, g, fd, r, CF, stC, NC, y, F, hm, hbd, Sg, hbg, hsc, hmF, Ck, hw⟩ := M.m
  obtain ⟨oc, od, kV, doc, pm, an, cdv, ct, osl, efd, lk, hcd⟩ := F.ex
  subst efd
  unfold lamOk at hl
  rw [Bool.and_eq_true] at hl
  obtain ⟨hp, hls⟩ := hl
  have L : LamX.LamS X.env.scope scope := LamX.lamS_by (by rw [C.sc]; exact hls)
  have hva : Vis (defScope st) r.a := by
    simp only [refSc, Bool.and_eq_true, decide_eq_true_eq] at hsc
    exact .inl hsc.1
  have na : nmOk r.a = true := by
    simp only [refSc, Bool.and_eq_true, decide_eq_true_eq] at hsc
    exact hsc.2.2.2.2.2.1
  unfold noPar at hp
  split at hp
  · refine PE.imp (LamX.pe_lamcall (T := [(P, X.env.qual ++ "<lambda>")]) (TT := TTw X.mg ws) (k := k + 1) (a := r.a) (Ng := [r.a, r.word, r.err]) (t := fun E => tE X.K (WE X.mg E) T ce) (C.gl hgl) hm F.kp lk hcd hbd Sg rfl hva (ref_gives (k := k) hbg hsc Sg.nd hmF Ck (hr.mono (Nat.le_succ _)) hw) TBb hcode List.mem_cons_self (fun p hp _ => by
      have := List.mem_singleton.mp hp; rw [this]) hr L rfl (fun _ _ _ _ _ => rfl) (fun A outer s H E f c' hr2 => (snd n).e (lam_ctx C hc (hr2.mono (Nat.le_succ k))) hb) (nm_of M.nm).1 (nm_of na).1 (nm_of na).2.1) fun pins s σ H Q I ⟨A, H₀, env, ex, S, tk, p⟩ => ?_
    rcases tk with tk | ⟨t1, t2, t3⟩
    · cases tk
    · refine ⟨t1, fun H1 e1 T1 => ?_⟩
      have k1 : TabK [(P, X.env.qual ++ "<lambda>")] H H1 := fun p hp _ => T1 p hp
      have S1 := S.extN t2 t3 e1
      have tk1 : TOk [(P, X.env.qual ++ "<lambda>")] A H₀ H1 := TOk.keep (.inr ⟨t1, t2, t3⟩) S (Keep.extN (env := env) (ex := ex) (σ := σ) e1 k1)
      refine ⟨A, H₀, env, ex, S1, ?_⟩
      simp only [evX] at p
      cases hq : ev T ce env with
      | ok d =>
        rw [hq] at p
        exact fun v H' e2 _ _ => p H' (S1.ext e2) (tk1.same S1 e2) ((Keep.extN e1 k1).trans (.refl e2))
      | exc m =>
        rw [hq] at p
        change PX X.K _ W A H₀ H env ex σ (match ws.lookup m with | some w => .ok (.str w) | none => .stuck) _ at p
        cases hwm : ws.lookup m with
        | none => rw [hwm] at p; exact p.elim
        | some w =>
          rw [hwm] at p
          exact fun H' e2 Ca hCa => ⟨m, Ca, w, hCa, rfl, rfl, hwm, fun H'' e3 => p H'' (S1.ext (e2.trans e3)) (tk1.same S1 (e2.trans e3)) ((Keep.extN e1 k1).trans (.refl (e2.trans e3)))⟩
      | stuck => rw [hq] at p; exact p.elim
  · cases hp
end
end L3

set_option Elab.async false
set_option linter.all false
set_option maxRecDepth 100000
set_option maxHeartbeats 4000000
/-! a table of defs: each keeps what the evaluator tells -/
namespace L3
open PySem PySem.Spec PyProof.Rows L2

/-- a def of the text: its name, its form, the names of its frame, its parameters, the evaluator's term -/
structure Ent where
  x : Str
  key : String
  st : Stmt
  N : List Str
  ps : List Str
  fd : FDef
def tcOf (es : List Ent) (consts : List (Str × D)) (excs : List (Str × String)) (bns : List Str) (e : Ent) : Tc := ⟨defScope e.st, e.N, true, es.map fun e => (e.x, e.key), consts, excs, bns, none⟩
structure EntOk (es : List Ent) (consts : List (Str × D)) (excs : List (Str × String)) (bns : List Str) (e : Ent) : Prop where
  sc : C8.scC e.N e.ps (defScope e.st) = true
  np : e.fd.np = e.ps.length
  nl : e.fd.nl = e.N.length
  tr : trSs 200 (tcOf es consts excs bns e) (defBody e.st) = some e.fd.body
/-- the def stands behind the top -/
structure DefOk (K : PySem.W.Frag) (mg : Str → Option Value) (e : Ent) (f : Addr) (fd : FuncData) : Prop where
  fn : Fun K e.x e.x e.st f fd
  m : mg e.x = some (.ref f)
  b : Binds K fd e.ps []
theorem map_lookup {es : List Ent} {x : Str} {key : String} (h : (es.map fun e => (e.x, e.key)).lookup x = some key) : ∃ e, e ∈ es ∧ e.x = x ∧ e.key = key := by
  induction es with
  | nil => cases h
  | cons e es ih =>
    rw [List.map_cons, List.lookup_cons] at h
    split at h
    · rename_i he
      cases h
      exact ⟨e, List.mem_cons_self, (by simpa using he : x = e.x).symm, rfl⟩
    · obtain ⟨e', m, a, b⟩ := ih h
      exact ⟨e', List.mem_cons_of_mem _ m, a, b⟩
theorem scC_nd {N P : List Str} {sc : Scope} (h : C8.scC N P sc = true) : N.Nodup := (C8.fnScope_by h).nd

/-- the names at the entry -/
theorem sr_start {K : PySem.W.Frag} {A : Av} {H : Hp} {ds : List D} {vs : List V} {N : List Str} (hA : ∀ a, A a → H a ≠ none) (r : Reps K H A ds vs) : SR K A H H (start N.length ds) (fun _ => none) (L2.start N vs) where
  len := by
    have := r.length
    simp [start, L2.start, this]
  inj := fun _ _ _ h => by cases h
  dom := hA
  new := fun _ _ h => by cases h
  old := fun _ _ h => by cases h
  same := Same.refl _
  hasv := fun _ _ h => by cases h
  at_ := fun i d fl h => by
    unfold start at h
    by_cases hi : i < ds.length
    · rw [List.getElem?_append_left (by simpa using hi), List.getElem?_map] at h
      cases hd : ds[i]? with
      | none => rw [hd] at h; cases h
      | some d' =>
        rw [hd] at h
        cases h
        obtain ⟨v, e, rv⟩ := r.get hd
        refine ⟨v, ?_, (repT_of rv).anti (fun a z => ?_) (fun a z => ?_), .inl rfl⟩
        · unfold L2.start
          rw [List.getElem?_append_left (by simpa [← r.length] using hi), List.getElem?_map, e]; rfl
        · rcases z with z | ⟨_, z, _⟩
          · exact z
          · cases z
        · rcases z with z | ⟨_, z, _⟩
          · exact z
          · cases z
    · rw [List.getElem?_append_right (by simpa using Nat.le_of_not_lt hi), List.getElem?_replicate] at h
      split at h <;> cases h

section
variable {P : Program} {w : World} {K : PySem.W.Frag} {mg : Str → Option Value} {base : Heap}
theorem callT_len {T : Tab} {k : Nat} {key : String} {fd : FDef} {ds : List D} (hT : T key = some fd) (h : ∀ (r : R D), callT T (k + 1) key ds = r → r = .stuck → False) : ds.length = fd.np := by
  by_cases hl : ds.length = fd.np
  · exact hl
  · exact (h _ rfl (by simp only [callT, hT, if_neg hl])).elim
/-- what the table's heads and constants are in the module -/
structure ModOk (K : PySem.W.Frag) (mg : Str → Option Value) (consts : List (Str × D)) (excs : List (Str × String)) (bns : List Str) : Prop where
  consts : ∀ x d, consts.lookup x = some d → ∃ u v, mg x = some u ∧ RelV v u ∧ ∀ H A, Rep K H A d v
  excs : ∀ x n, excs.lookup x = some n → ∃ C : Addr, x = Str.ofString n ∧ mg x = some (.ref C) ∧ PySem.W.excIn K C [.type "ValueError", .type "Exception", .type "BaseException", .type "object"] "ValueError.__new__" = true ∧ PySem.W.keepIn K (.ref C) = true ∧
    PySem.W.subIn K (.ref C) (.type "BaseException") = some true ∧ PySem.W.typeIn K (.ref C) = some (.type "type")
  bns : ∀ x, x ∈ bns → mg x = none

theorem table {es : List Ent} {consts : List (Str × D)} {excs : List (Str × String)} {bns : List Str} {T : Tab} (hT : ∀ e, e ∈ es → T e.key = some e.fd) (hE : ∀ e, e ∈ es → EntOk es consts excs bns e) (M : ModOk K mg consts excs bns)
    (hD : ∀ e, e ∈ es → ∃ f fd, DefOk K mg e f fd) : ∀ (k : Nat) (e : Ent) (f : Addr) (fd : FuncData), e ∈ es → DefOk K mg e f fd → FnOk P w K mg base (L2.CX P w) k f fd e.ps (spD K mg (callT T k e.key) (frOf T e.key))
  | 0, e, f, fd, he, hd => by
    have no : ∀ vs H Q E, spD K mg (callT T 0 e.key) (frOf T e.key) vs H Q E → False := fun vs H Q E ⟨ds, A, r, hA, q⟩ => q
    exact ⟨fun vs H Q E h => (no _ _ _ _ h).elim, fun A outer s H args us vs Q E hr h0 hb hv hs => (no _ _ _ _ hs).elim⟩
  | k + 1, e, f, fd, he, hd => by
    have hfd := hT e he
    have ok := hE e he
    have nd : e.N.Nodup := scC_nd ok.sc
    have hlen : ∀ (vs : List V) (H : Hp) (Q : VK) (E : XK), spD K mg (callT T (k + 1) e.key) (frOf T e.key) vs H Q E → ∃ ds A, Reps K H A ds vs ∧ ds.length = e.fd.np := fun vs H Q E ⟨ds, A, r, hA, q⟩ =>
      ⟨ds, A, r, callT_len hfd fun r e1 e2 => by rw [e1, e2] at q; exact q⟩
    refine Fun.okX hd.fn (C8.fnScope_by ok.sc) (fun vs H Q E h => ?_) fun cdv A outer s H vs Q E hr h => ?_
    · obtain ⟨ds, A, r, hl⟩ := hlen vs H Q E h
      rw [← r.length, hl, ok.np]
    · obtain ⟨ds, A0, r, hA, q⟩ := h
      have hl : ds.length = e.fd.np := callT_len hfd fun r e1 e2 => by rw [e1, e2] at q; exact q
      let W : Wn := fun n H' => ∀ C, mg (Str.ofString n) = some (.ref C) → E (.ref C) none H'
      have C : CxOk (cxOf (L2.CX P w) P w K mg base e.N e.x (defScope e.st) f cdv A outer s H E) W ⟨callT T k, frOf T⟩ (tcOf es consts excs bns e) := {
        sc := rfl
        N := rfl
        nd := nd
        calm := rfl
        fn := fun _ _ => rfl
        pass := fun _ => passes_of rfl
        takes := (takes_of rfl rfl rfl rfl).imp fun c d _ H' ⟨n, Ca, h1, h2, h3, h4⟩ => by
          subst h2 h3
          exact h4 Ca h1
        units := by
          have := hr.un
          show (A.deeper _).units + 80 < cLine
          omega
        calls := fun x key h => by
          obtain ⟨e', m, e1, e2⟩ := map_lookup h
          obtain ⟨f', fd', d'⟩ := hD e' m
          subst e1 e2
          exact ⟨k, f', fd', e'.ps, table hT hE M hD k e' f' fd' m d', hr, d'.m, d'.fn.kp, d'.b⟩
        consts := M.consts
        excs := fun x n h => by
          obtain ⟨Ca, a, b, c, d, f, g⟩ := M.excs x n h
          exact ⟨Ca, ⟨a, b, c, d, f, g⟩⟩
        bns := M.bns }
      refine ⟨tS K [] W ⟨callT T k, frOf T⟩ (frOf T e.key) e.fd.body, (sndS 200).ss C (C8.fnScope_by ok.sc).kind rfl (refR_none rfl) ok.tr, A0, H, start e.N.length ds, fun _ => none, sr_start hA r, .inl rfl, ?_⟩
      have hq : callT T (k + 1) e.key ds = (exec ⟨callT T k, frOf T⟩ e.fd.fresh e.fd.body (start e.fd.nl ds)).toR := by
        show (match T e.key with | some fd => if ds.length = fd.np then (exec ⟨callT T k, frOf T⟩ fd.fresh fd.body (start fd.nl ds)).toR else .stuck | none => .stuck) = _
        rw [hfd]
        show (if ds.length = e.fd.np then _ else _) = _
        rw [if_pos hl]
      have hfr : frOf T e.key = e.fd.fresh := by unfold frOf; rw [hfd]
      rw [hq, ok.nl, ← hfr] at q
      show match exec ⟨callT T k, frOf T⟩ (frOf T e.key) e.fd.body (start e.N.length ds) with | .nx env' => _ | .rt d => _ | .ex n => _ | .st => _
      cases hx : exec ⟨callT T k, frOf T⟩ (frOf T e.key) e.fd.body (start e.N.length ds) with
      | nx env' =>
        rw [hx] at q
        exact fun σ' H' ex' S' _ => q .non H' S'.same .non fun _ => .of_na rfl
      | rt d =>
        rw [hx] at q
        exact q
      | ex n =>
        rw [hx] at q
        exact fun H' e' C hC => q H' C e' hC
      | st =>
        rw [hx] at q
        exact q

/-- the law's own promise -/
def spLaw (K : PySem.W.Frag) : Sp := fun vs H Q _ => ∃ (a : Addr) (ns : List Int), vs = [.ref a] ∧ SqL K H a (ns.map V.int) ∧ ns.length ≤ 63 ∧ ∀ H', Q (.bl true) H'
theorem reps_ints {A : Av} {H : Hp} : ∀ ns : List Int, Reps K H A (ns.map .int) (ns.map V.int)
  | [] => .nil
  | n :: ns => .cons (.int n) (reps_ints ns)
theorem law_imp {T : Tab} {k : Nat} {key : String} {f : Addr} {fd : FuncData} {ps : List Str} (F : FnOk P w K mg base (L2.CX P w) k f fd ps (spD K mg (callT T k key) (frOf T key)))
    (hl : ∀ ns : List Int, ns.length ≤ 63 → callT T k key [.list (ns.map .int)] = .ok (.bool true)) : FnOk P w K mg base (L2.CX P w) k f fd ps (spLaw K) :=
  F.imp fun vs H Q E ⟨a, ns, e, hS, hn, q⟩ => by
    subst e
    refine ⟨[.list (ns.map .int)], fun _ => False, .cons (.lst (hS.imp (fun h => ⟨fun z => z, h⟩) id) (reps_ints ns)) .nil, fun _ z => z.elim, ?_⟩
    rw [hl ns hn]
    intro v H' _ r _
    cases r
    exact q H'
end
end L3

set_option Elab.async false
set_option linter.all false
set_option maxRecDepth 100000
set_option maxHeartbeats 4000000
/-! the law's own def, which makes lambdas -/
namespace L3
open PySem PySem.Spec PyProof.Rows L2

/-- where the law stands, and its code object's table -/
structure LawAt (K : PySem.W.Frag) (h : Heap) (x : Str) (st : Stmt) : Prop where
  ex : ∃ (f c P : Addr) (od an dd : Option Addr) (sl sl2 : Array (Option Value)) (oc kV dc pm ct e : Value) (vs : Array Value), PySem.W.nsIn K mainGlobals x = some (some (.ref f)) ∧
    K.lookup f = some ⟨oc, od, .func (PySem.W.fnOf x x (defArgs st) (defBody st) (defScope st) .none kV dc pm an (.ref c) ct), sl⟩ ∧ PySem.W.codeIn K (.ref c) x = true ∧
    K.lookup c = some ⟨e, dd, .fields vs, sl2⟩ ∧ vs[11]? = some (.ref P) ∧ PySem.W.codeHdIn K c P = true ∧ K.lookup P = none ∧ h.get? P = some { cls := .none, data := .fields #[] }
theorem lawAt_mk {K : PySem.W.Frag} {h : Heap} {x : Str} {st : Stmt} {f c P : Addr} {od an dd : Option Addr} {sl sl2 : Array (Option Value)} {oc kV dc pm ct e : Value} {vs : Array Value} (a : PySem.W.nsIn K mainGlobals x = some (some (.ref f)))
    (l : K.lookup f = some ⟨oc, od, .func (PySem.W.fnOf x x (defArgs st) (defBody st) (defScope st) .none kV dc pm an (.ref c) ct), sl⟩) (b : PySem.W.codeIn K (.ref c) x = true)
    (m : K.lookup c = some ⟨e, dd, .fields vs, sl2⟩) (n : vs[11]? = some (.ref P)) (o : PySem.W.codeHdIn K c P = true) (q : K.lookup P = none) (r : h.get? P = some { cls := .none, data := .fields #[] }) : LawAt K h x st := ⟨⟨f, c, P, od, an, dd, sl, sl2, oc, kV, dc, pm, ct, e, vs, a, l, b, m, n, o, q, r⟩⟩
def tcL (es : List Ent) (consts : List (Str × D)) (excs : List (Str × String)) (bns : List Str) (rx : Str) (ws : List (String × Str)) (e : Ent) : Tc := ⟨defScope e.st, e.N, true, es.map fun e => (e.x, e.key), consts, excs, bns, some (rx, ws)⟩
structure LawE (es : List Ent) (consts : List (Str × D)) (excs : List (Str × String)) (bns : List Str) (rx : Str) (ws : List (String × Str)) (e : Ent) : Prop where
  sc : C8.scC e.N e.ps (defScope e.st) = true
  np : e.fd.np = e.ps.length
  nl : e.fd.nl = e.N.length
  tr : trSs 200 (tcL es consts excs bns rx ws e) (defBody e.st) = some e.fd.body
  fr : e.fd.fresh = false
  gl : (tcL es consts excs bns rx ws e).gl rx = true
/-- the law's promise: its table is empty -/
def spT (K : PySem.W.Frag) (P : Addr) : Sp := fun vs H Q _ => ∃ (a : Addr) (ns : List Int), vs = [.ref a] ∧ SqL K H a (ns.map V.int) ∧ ns.length ≤ 63 ∧ H P = some (.tbl #[]) ∧ ∀ H', Q (.bl true) H'
theorem lawAtS {l : PySem.W.OpenLaw} {w : World} {K : PySem.W.Frag} {mg : Str → Option Value} {fa : Addr} {h : Heap} {es : List Ent} {consts : List (Str × D)} {excs : List (Str × String)} {bns : List Str} {T : Tab} {rx y : Str} {ws : List (String × Str)} {e : Ent} {k : Nat}
    (X : K.In h) (G : h.Ns mainGlobals mg) (hmg : mg e.x = some (.ref fa)) (La : LawAt K h e.x e.st) (hps : e.ps = [y])
    (hb : ∀ (kV doc pm : Value) (an : Option Addr) (cdv ct : Value) (us : List Value), us.length = 1 → bindArgs (PySem.W.fnOf e.x e.x (defArgs e.st) (defBody e.st) (defScope e.st) .none kV doc pm an cdv ct) ⟨us, []⟩ = pure ([y].zip us))
    (hT : ∀ e, e ∈ es → T e.key = some e.fd) (hE : ∀ e, e ∈ es → EntOk es consts excs bns e) (M : ModOk K mg consts excs bns) (hD : ∀ e, e ∈ es → ∃ f fd, DefOk K mg e f fd) (Mr : RefM K mg rx ws) (ok : LawE es consts excs bns rx ws e) (hTl : T e.key = some e.fd)
    (hlaw : ∀ ns : List Int, ns.length ≤ 63 → callT T (k + 1) e.key [.list (ns.map .int)] = .ok (.bool true)) : LamX.LawAtS l w K (L2.CX l.prog w) (k + 4) 63 y mg fa h := by
  obtain ⟨f, c, P, od, an, dd, sl, sl2, oc, kV, dc, pm, ct, ev_, vs, h1, h2, h3, h4, h5, h6, h7, h8⟩ := La.ex
  have ef : f = fa := by
    have := (PySem.W.mg_of X G h1).symm.trans hmg
    injection this with q
    injection q
  subst ef
  have S0 : FnScope e.N e.ps (defScope e.st) := C8.fnScope_by ok.sc
  refine ⟨_, [(c, P)], spT K P, fun p hp => ?_, fun p hp => ?_, fun p hp => ?_, fun s u => .of_eq (hb kV dc pm an (.ref c) ct [u] rfl), fun H a ns hl _ hP hS => ⟨a, ns, rfl, hS, hl, hP _ List.mem_cons_self, fun _ => rfl⟩, fun base hK hG hTB => ?_⟩
  · have e := List.mem_singleton.mp hp; rw [e]
    exact h8
  · have e := List.mem_singleton.mp hp; rw [e]
    exact h7
  · have e := List.mem_singleton.mp hp; rw [e]
    exact PySem.W.codeHd_of_K X h6
  · rw [← hps]
    refine fn_of h2 h3 S0 (fun vs H Q E ⟨a, ns, e1, _⟩ => by rw [e1, hps]; rfl) fun A outer s H vs Q E hr hsp => ?_
    obtain ⟨a, ns, e1, hS, hl, hP, hQ⟩ := hsp
    subst e1
    have TBb : LamX.TabB base mg c P := hTB _ List.mem_cons_self
    have calls : ∀ x key, (tcL es consts excs bns rx ws e).calls.lookup x = some key → ∃ (f : Addr) (fd : FuncData) (ps : List Str), FnOk l.prog w K mg base (L2.CX l.prog w) k f fd ps (spD K mg (callT T k key) (frOf T key)) ∧ mg x = some (.ref f) ∧ PySem.W.keepIn K (.ref f) = true ∧ Binds K fd ps [] := fun x key h => by
      obtain ⟨e', m, e1, e2⟩ := map_lookup h
      obtain ⟨f', fd', d'⟩ := hD e' m
      subst e1 e2
      exact ⟨f', fd', e'.ps, table hT hE M hD k e' f' fd' m d', d'.m, d'.fn.kp, d'.b⟩
    have C : CxOk (cxOf (L2.CX l.prog w) l.prog w K mg base e.N e.x (defScope e.st) f (.ref c) A outer s H E) (WE mg E) ⟨callT T k, frOf T⟩ (tcL es consts excs bns rx ws e) := {
      sc := rfl
      N := rfl
      nd := S0.nd
      calm := rfl
      fn := fun _ _ => rfl
      pass := fun _ => passes_of rfl
      takes := (takes_of rfl rfl rfl rfl).imp fun c d _ H' ⟨n, Ca, h1, h2, h3, h4⟩ => by
        subst h2 h3
        exact h4 Ca h1
      units := by
        have := hr.un
        show (A.deeper _).units + 80 < cLine
        omega
      calls := fun x key h => by
        obtain ⟨f', fd', ps', a1, a2, a3, a4⟩ := calls x key h
        exact ⟨k, f', fd', ps', a1, hr.mono (by omega), a2, a3, a4⟩
      consts := M.consts
      excs := fun x n h => by
        obtain ⟨Ca, a, b, c, d, f, g⟩ := M.excs x n h
        exact ⟨Ca, ⟨a, b, c, d, f, g⟩⟩
      bns := M.bns }
    have Rf := refR_ok (X := cxOf (L2.CX l.prog w) l.prog w K mg base e.N e.x (defScope e.st) f (.ref c) A outer s H E) (k := k) (P := P) (c := c) C rfl calls hr Mr ok.gl TBb rfl
    have r : Reps K H (fun _ => False) [PyData.list (ns.map .int)] [V.ref a] := .cons (.lst (hS.imp (fun h => ⟨fun z => z, h⟩) id) (reps_ints ns)) .nil
    have S1 : SR K (fun _ => False) H H (start e.N.length [PyData.list (ns.map .int)]) (fun _ => none) (L2.start e.N [V.ref a]) := sr_start (fun _ z => z.elim) r
    have S2 : SR K (fun _ => False) (rt H) H (start e.N.length [PyData.list (ns.map .int)]) (fun _ => none) (L2.start e.N [V.ref a]) := { S1 with old := (fun _ _ z => by cases z), same := (fun b o z => (rt_some z).1) }
    have hp1 : e.fd.np = 1 := by rw [ok.np, hps]; rfl
    refine ⟨_, (sndS 200).ss (fr := false) C S0.kind rfl Rf ok.tr, fun _ => False, rt H, _, _, S2, .inr ⟨fun p hp => ?_, fun b ps z => ?_, fun a z => z.elim⟩, ?_⟩
    · have e := List.mem_singleton.mp hp; rw [e]
      exact LamX.TabS.nil hP
    · exact ntb_ne (rt_some z).2 ps rfl
    · have hq : callT T (k + 1) e.key [PyData.list (ns.map .int)] = (exec ⟨callT T k, frOf T⟩ false e.fd.body (start e.N.length [PyData.list (ns.map .int)])).toR := by
        show (match T e.key with | some fd => if [PyData.list (ns.map .int)].length = fd.np then (exec ⟨callT T k, frOf T⟩ fd.fresh fd.body (start fd.nl [PyData.list (ns.map .int)])).toR else .stuck | none => .stuck) = _
        rw [hTl]
        show (if [PyData.list (ns.map .int)].length = e.fd.np then _ else _) = _
        rw [if_pos (by rw [hp1]; rfl), ok.fr, ok.nl]
      rw [hlaw ns hl] at hq
      show match exec ⟨callT T k, frOf T⟩ false e.fd.body (start e.N.length [PyData.list (ns.map .int)]) with | .nx env' => _ | .rt d => _ | .ex n => _ | .st => _
      cases hx : exec ⟨callT T k, frOf T⟩ false e.fd.body (start e.N.length [PyData.list (ns.map .int)]) with
      | nx env' => rw [hx] at hq; cases hq
      | rt d =>
        rw [hx] at hq
        cases hq
        intro v H' _ r _
        cases r
        exact hQ H'
      | ex n => rw [hx] at hq; cases hq
      | st => rw [hx] at hq; cases hq

/-! ### the facts of the module -/
/-- whether errors of the class C are of the class named x -/
def IsAt (K : PySem.W.Frag) (C : Addr) (x : Str) (b : Bool) : Prop := ∃ (cv : V) (u : Value), PySem.W.kitOne K (.ref C) u = some b ∧ (∀ u', RelV cv u' ↔ u' = u) ∧ (PySem.W.nsIn K mainGlobals x = some (some u) ∨ (PySem.W.nsIn K mainGlobals x = some none ∧ bootBuiltins x = some u ∧ x ≠ "__name__"))
theorem isAt_cls {K : PySem.W.Frag} {C D : Addr} {x : Str} {b : Bool} (a : PySem.W.nsIn K mainGlobals x = some (some (.ref D))) (k : PySem.W.kitOne K (.ref C) (.ref D) = some b) : IsAt K C x b := ⟨.ref D, .ref D, k, fun u => Iff.rfl, .inl a⟩
theorem isAt_val {K : PySem.W.Frag} {C : Addr} {b : Bool} (a : PySem.W.nsIn K mainGlobals "ValueError" = some none) (k : PySem.W.kitOne K (.ref C) (.type "ValueError") = some b) : IsAt K C "ValueError" b := ⟨.ty "ValueError", .type "ValueError", k, fun u => Iff.rfl, .inr ⟨a, rfl, by decide⟩⟩
def IsAll (K : PySem.W.Frag) (C : Addr) : List (Str × Bool) → Prop
  | [] => True
  | (x, b) :: r => IsAt K C x b ∧ IsAll K C r
theorem IsAll.get {K : PySem.W.Frag} {C : Addr} : ∀ {l : List (Str × Bool)}, IsAll K C l → ∀ x b, l.lookup x = some b → IsAt K C x b
  | [], _, x, b, h => by cases h
  | (y, c) :: r, ⟨h1, h2⟩, x, b, h => by
    rw [List.lookup_cons] at h
    split at h
    · rename_i e
      cases h
      have e : x = y := by simpa using e
      rw [e]; exact h1
    · exact h2.get x b h
/-- an own class of errors, as the def that tells the class sees it -/
def ClsFact (K : PySem.W.Frag) (few : Str) (n : Str) (is : List (Str × Bool)) : Prop := ∃ C CF : Addr, PySem.W.nsIn K mainGlobals n = some (some (.ref C)) ∧ PySem.W.nsIn K mainGlobals few = some (some (.ref CF)) ∧ PySem.W.exmOne K (.ref C) (.ref CF) = some true ∧ ExcC K C ∧ IsAll K C is
theorem clsFact_mk {K : PySem.W.Frag} {few n : Str} {is : List (Str × Bool)} {C CF : Addr} (a : PySem.W.nsIn K mainGlobals n = some (some (.ref C))) (b : PySem.W.nsIn K mainGlobals few = some (some (.ref CF))) (m : PySem.W.exmOne K (.ref C) (.ref CF) = some true)
    (e1 : PySem.W.findIn K (.ref C) "__getattribute__" = some (some (.builtin "BaseException.__getattribute__"))) (e2 : PySem.W.findIn K (.ref C) "__getattr__" = some none) (e3 : PySem.W.subIn K (.ref C) (.type "BaseException") = some true) (e4 : PySem.W.hasDictIn K C = true)
    (e5 : PySem.W.findIn K (.ref C) "__class__" = some (some (.builtin "object.__class__"))) (e6 : PySem.W.specialIn K (.builtin "object.__class__") "__get__" = some (some (.builtin "getset_descriptor.__get__"))) (e7 : PySem.W.takesIn K (.builtin "object.__class__") = some true)
    (e8 : PySem.W.mroIn K C (.type "object") = some true) (i : IsAll K C is) : ClsFact K few n is := ⟨C, CF, a, b, m, ⟨e1, e2, e3, e4, e5, e6, e7, e8⟩, i⟩
theorem refM_mk {K : PySem.W.Frag} {h : Heap} {mg : Str → Option Value} (X : K.In h) (G : h.Ns mainGlobals mg) {eR eC : Ent} {ws : List (String × Str)} {y : Str} (r : RefI) {CF : Addr} (hcf : PySem.W.nsIn K mainGlobals r.few = some (some (.ref CF)))
    (dR : ∃ f fd, DefOk K mg eR f fd) (dC : ∃ f fd, DefOk K mg eC f fd) (hpR : eR.ps = [r.a]) (hpC : eC.ps = [y]) (hcls : eC.x = r.cls) (hsc : C8.scC [r.a, r.word, r.err] [r.a] (defScope eR.st) = true) (hbg : refOf (defBody eR.st) = some r) (hrs : refSc r (defScope eR.st) = true)
    (hscC : C8.scC eC.N [y] (defScope eC.st) = true) (hisi : PySem.W.nsIn K mainGlobals "isinstance" = some none) (nm : nmOk eR.x = true)
    (cl : ∀ n w, ws.lookup n = some w → ∃ is, ClsFact K r.few (Str.ofString n) is ∧ exK ⟨defScope eC.st, eC.N, true, [], [], [], [], none⟩ is 100 (some .exc :: (eC.N.drop 1).map fun _ => none) (defBody eC.st) = some (.str w)) : RefM K mg eR.x ws := by
  obtain ⟨fR, fdR, dR⟩ := dR
  obtain ⟨fC, fdC, dC⟩ := dC
  refine ⟨⟨eR.st, fR, fdR, r, CF, eC.st, eC.N, y, dR.fn, dR.m, by rw [← hpR]; exact dR.b, C8.fnScope_by hsc, hbg, hrs, PySem.W.mg_of X G hcf, ⟨C8.fnScope_by hscC, ⟨fC, fdC, by rw [← hcls]; exact dC.fn, by rw [← hcls]; exact dC.m, by rw [← hpC]; exact dC.b⟩, PySem.W.mg_none_of X G hisi⟩, fun n w C hn hC => ?_⟩, nm⟩
  obtain ⟨is, ⟨C', CF', a, b, m, ex, al⟩, hx⟩ := cl n w hn
  have e1 : C' = C := by
    have := (PySem.W.mg_of X G a).symm.trans hC
    injection this with q
    injection q
  have e2 : CF' = CF := by
    rw [hcf] at b
    cases b; rfl
  subst e1 e2
  refine ⟨ex, m, is, hx, fun x b hb => ?_⟩
  obtain ⟨cv, u, k1, k2, k3⟩ := al.get x b hb
  exact ⟨cv, u, k1, k2, k3.imp (fun z => PySem.W.mg_of X G z) fun z => ⟨PySem.W.mg_none_of X G z.1, z.2⟩⟩
end L3

set_option Elab.async false
set_option linter.all false
set_option maxRecDepth 100000
set_option maxHeartbeats 4000000
/-! laws of the evaluator -/
namespace L3
open PySem

theorem callT_eq {T : Tab} {f : String} {fd : FDef} {ds : List D} (k : Nat) (hT : T f = some fd) (hl : ds.length = fd.np) : callT T (k + 1) f ds = (exec ⟨callT T k, frOf T⟩ fd.fresh fd.body (start fd.nl ds)).toR := by
  simp only [callT, hT, hl, if_true]
/-- a proof that simp takes as one, not as a reckoning -/
theorem nd {α : Sort u} {a b : α} (h : a = b) : a = b := h
section
variable {α β : Type}
theorem bind_ok (a : α) (f : α → R β) : (R.ok a).bind f = f a := nd rfl
theorem bind_stuck (f : α → R β) : (R.stuck : R α).bind f = .stuck := nd rfl
theorem bind_exc (n : String) (f : α → R β) : (R.exc n : R α).bind f = .exc n := nd rfl
theorem bind_ite {p : Prop} [Decidable p] (x y : R α) (f : α → R β) : (if p then x else y).bind f = if p then x.bind f else y.bind f := by split <;> rfl
theorem toO_ok (a : α) (f : α → O) : (R.ok a).toO f = f a := nd rfl
theorem toO_exc (n : String) (f : α → O) : (R.exc n : R α).toO f = .ex n := nd rfl
theorem toO_ite {p : Prop} [Decidable p] (x y : R α) (f : α → O) : (if p then x else y).toO f = if p then x.toO f else y.toO f := by split <;> rfl
theorem ok_ite {p : Prop} [Decidable p] (x y : α) : (if p then R.ok x else R.ok y) = R.ok (if p then x else y) := by split <;> rfl
theorem int_ite {p : Prop} [Decidable p] (x y : Int) : (if p then PyData.int x else PyData.int y) = PyData.int (if p then x else y) := by split <;> rfl
theorem nox_ok (a : α) : (R.ok a).nox = .ok a := nd rfl
theorem nox_ite {p : Prop} [Decidable p] (x y : R α) : (if p then x else y).nox = if p then x.nox else y.nox := by split <;> rfl
end
theorem then_nx (e : Env) (f : Env → O) : (O.nx e).then f = f e := nd rfl
theorem then_rt (d : D) (f : Env → O) : (O.rt d).then f = .rt d := nd rfl
theorem then_ex (d : String) (f : Env → O) : (O.ex d).then f = .ex d := nd rfl
theorem then_st (f : Env → O) : (O.st).then f = .st := nd rfl
theorem then_ite {p : Prop} [Decidable p] (x y : O) (f : Env → O) : (if p then x else y).then f = if p then x.then f else y.then f := by split <;> rfl
theorem toR_rt (d : D) : (O.rt d).toR = .ok d := nd rfl
theorem toR_nx (e : Env) : (O.nx e).toR = .ok .none := nd rfl
theorem toR_ex (e : String) : (O.ex e).toR = .exc e := nd rfl
theorem toR_ite {p : Prop} [Decidable p] (x y : O) : (if p then x else y).toR = if p then x.toR else y.toR := by split <;> rfl

def iteR (x : D) (a b : R D) : R D := match x with | .bool true => a | .bool false => b | _ => .stuck
def iteO (x : D) (a b : O) : O := match x with | .bool true => a | .bool false => b | _ => .st
theorem iteR_b (b : Bool) (x y : R D) : iteR (.bool b) x y = if b = true then x else y := by cases b <;> rfl
theorem iteO_b (b : Bool) (x y : O) : iteO (.bool b) x y = if b = true then x else y := by cases b <;> rfl
theorem iteR_and (b c : Bool) : iteR (.bool b) (.ok (.bool c)) (.ok (.bool false)) = .ok (.bool (b && c)) := by cases b <;> rfl
theorem iteR_or (b c : Bool) : iteR (.bool b) (.ok (.bool true)) (.ok (.bool c)) = .ok (.bool (b || c)) := by cases b <;> rfl
def notD (x : D) : R D := match x with | .bool b => .ok (.bool (!b)) | _ => .stuck
theorem notD_b (b : Bool) : notD (.bool b) = .ok (.bool (!b)) := nd rfl
def getV (env : Env) (i : Nat) : R D := match env[i]? with | some (some (d, _)) => .ok d | _ => .stuck
theorem getV0 (d : D) (f : Fl) (r : Env) : getV (some (d, f) :: r) 0 = .ok d := nd rfl
theorem getV1 (x : Option (D × Fl)) (d : D) (f : Fl) (r : Env) : getV (x :: some (d, f) :: r) 1 = .ok d := nd rfl
theorem getVs (x : Option (D × Fl)) (r : Env) (i : Nat) : getV (x :: r) (i + 1) = getV r i := nd rfl
def tupR (ds : List D) : R D := if ds.length ≤ lim then .ok (.tuple ds) else .stuck
def lstR (ds : List D) : R D := if ds.length ≤ lim then .ok (.list ds) else .stuck
theorem tupR_ok {ds : List D} (h : ds.length ≤ lim) : tupR ds = .ok (.tuple ds) := if_pos h
theorem lstR_ok {ds : List D} (h : ds.length ≤ lim) : lstR ds = .ok (.list ds) := if_pos h
section
variable {T : FT} {a b c : CE} {es : CL} {env : Env}
theorem ev_cn {d : D} : ev T (.cn d) env = .ok d := by rw [ev]
theorem ev_var {i : Nat} : ev T (.var i) env = getV env i := by rw [ev]; rfl
theorem ev_tup : ev T (.tup es) env = (evs T es env).bind tupR := by rw [ev]; rfl
theorem ev_lst : ev T (.lst es) env = (evs T es env).bind lstR := by rw [ev]; rfl
theorem ev_dct0 : ev T .dct0 env = .ok (.dict []) := by rw [ev]
theorem ev_u {o : U1} : ev T (.u o a) env = (ev T a env).bind (op1 o) := by rw [ev]
theorem ev_b {o : B2} : ev T (.b o a c) env = (ev T a env).bind fun x => (ev T c env).bind (op2 o x) := by rw [ev]
theorem ev_and : ev T (.and a c) env = (ev T a env).bind fun x => iteR x (ev T c env) (.ok (.bool false)) := by rw [ev]; rfl
theorem ev_or : ev T (.or a c) env = (ev T a env).bind fun x => iteR x (.ok (.bool true)) (ev T c env) := by rw [ev]; rfl
theorem ev_not : ev T (.not a) env = (ev T a env).bind notD := by rw [ev]; rfl
theorem ev_chain {o o' : B2} : ev T (.chain o o' a b c) env = (ev T a env).bind fun x => (ev T b env).bind fun y => (op2 o x y).bind fun z => iteR z ((ev T c env).bind fun w => op2 o' y w) (.ok (.bool false)) := by rw [ev]; rfl
theorem ev_ite : ev T (.ite c a b) env = (ev T c env).bind fun x => iteR x (ev T a env) (ev T b env) := by rw [ev]; rfl
theorem ev_sl : ev T (.sl a b c) env = (ev T a env).bind fun x => (ev T b env).bind fun l => (partR l).bind fun l' => (ev T c env).bind fun h => (partR h).bind fun h' => sliceD x l' h' := by rw [ev]
theorem ev_isi {t : Ty} : ev T (.isi a t) env = (ev T a env).bind fun x => .ok (.bool (isiD x t)) := by rw [ev]
theorem ev_call {f : String} : ev T (.call f es) env = (evs T es env).bind fun ds => T.f f ds := by rw [ev]
def lcC (c : D) (y : R D) : R (Option D) := match c with
  | .bool true => y.nox.bind fun y => .ok (some y)
  | .bool false => .ok none
  | _ => .stuck
def lcD (r : List D) : R D := .ok (.list r)
theorem lcC_t (y : D) : lcC (.bool true) (.ok y) = .ok (some y) := nd rfl
theorem lcC_b (b : Bool) (y : D) : lcC (.bool b) (.ok y) = .ok (if b = true then some y else none) := by cases b <;> rfl
theorem ev_lc {own : List Nat} {tg : Tg} {it : CI} {cond elt : CE} : ev T (.lc own tg it cond elt) env = (its T it env).bind fun ds => (lcLoop (fun d => (bindT tg d (wipeE (freeze (lkI it) env) own)).bind fun e => (ev T cond e).nox.bind fun c => lcC c (ev T elt e)) ds).bind lcD := by rw [ev]; rfl
theorem evs_nil : evs T .nil env = .ok [] := by rw [evs]
theorem evs_cons : evs T (.cons a es) env = (ev T a env).bind fun d => (evs T es env).bind fun ds => .ok (d :: ds) := by rw [evs]
def itemsR (x : D) : R (List D) := match itemsOf x with | some ds => .ok ds | none => .stuck
theorem itemsR_l (ds : List D) : itemsR (.list ds) = .ok ds := nd rfl
theorem itemsR_t (ds : List D) : itemsR (.tuple ds) = .ok ds := nd rfl
def rgD (t : Bool) (ds : List D) : R D := .ok (if t then .tuple ds else .list ds)
theorem rgD_t (ds : List D) : rgD true ds = .ok (.tuple ds) := nd rfl
theorem rgD_l (ds : List D) : rgD false ds = .ok (.list ds) := nd rfl
theorem ev_rg {t : Bool} {it : CI} : ev T (.rg t it) env = (rgs T it env).bind (rgD t) := by rw [ev]; rfl
def rngD (i : Int) (n : Nat) : List D := (List.range n).map fun k => .int (i + (k : Nat))
def rng1 (x : D) : R (List D) := match x with | .int j => if -(2 ^ 62) ≤ j ∧ j ≤ lim then .ok (rngD 0 j.toNat) else .stuck | _ => .stuck
def rng2 (x y : D) : R (List D) := match x, y with
    | .int i, .int j => if -(2 ^ 62) ≤ i ∧ i < 2 ^ 62 ∧ -(2 ^ 62) ≤ j ∧ j < 2 ^ 62 ∧ j - i ≤ lim then .ok (rngD i (j - i).toNat) else .stuck
    | _, _ => .stuck
theorem its_seq : its T (.seq a) env = (ev T a env).bind itemsR := by rw [its]; rfl
theorem its_rng1 : its T (.rng1 a) env = (ev T a env).bind rng1 := by
  rw [its]
  congr 1
  funext x
  cases x <;> first | rfl | skip
  unfold rng1 rngD
  simp only [Int.zero_add]
theorem its_rng2 : its T (.rng2 a b) env = (ev T a env).bind fun x => (ev T b env).bind fun y => rng2 x y := by rw [its]; rfl
theorem its_enum : its T (.enum a) env = (ev T a env).bind enumR := by rw [its]
theorem its_zip : its T (.zip a b) env = (ev T a env).bind fun x => (ev T b env).bind fun y => zipR x y := by rw [its]
theorem its_rev : its T (.rev a) env = (ev T a env).bind revR := by rw [its]
theorem enumR_l (ds : List D) : enumR (.list ds) = .ok (ds.mapIdx fun i d => .tuple [.int (i : Nat), d]) := nd rfl
theorem enumR_t (ds : List D) : enumR (.tuple ds) = .ok (ds.mapIdx fun i d => .tuple [.int (i : Nat), d]) := nd rfl
theorem revR_l (ds : List D) : revR (.list ds) = .ok ds.reverse := nd rfl
theorem revR_t (ds : List D) : revR (.tuple ds) = .ok ds.reverse := nd rfl
theorem zipR_l {xs ys : List D} (h : xs.length ≤ lim) : zipR (.list xs) (.list ys) = .ok (List.zipWith (fun x y => .tuple [x, y]) xs ys) := if_pos h
theorem zipR_t {xs ys : List D} (h : xs.length ≤ lim) : zipR (.tuple xs) (.tuple ys) = .ok (List.zipWith (fun x y => .tuple [x, y]) xs ys) := if_pos h
theorem rgs_1 : rgs T (.rng1 a) env = (ev T a env).bind rng1 := by
  rw [rgs]
  congr 1
  funext x
  cases x <;> first | rfl | skip
  unfold rng1 rngD
  simp only [Int.zero_add]
theorem rgs_2 : rgs T (.rng2 a b) env = (ev T a env).bind fun x => (ev T b env).bind fun y => rng2 x y := by rw [rgs]; rfl
theorem rng1_ok {j : Int} (h : -1000000 ≤ j) (h2 : j ≤ 16777216) : rng1 (.int j) = .ok (rngD 0 j.toNat) := by
  have hl : (lim : Int) = 16777216 := rfl
  exact if_pos ⟨by omega, by omega⟩
theorem rng2_ok {i j : Int} (h : -1000000 ≤ i) (h2 : i ≤ 16777216) (h3 : -1000000 ≤ j) (h4 : j ≤ 15000000) : rng2 (.int i) (.int j) = .ok (rngD i (j - i).toNat) := by
  have hl : (lim : Int) = 16777216 := rfl
  exact if_pos ⟨by omega, by omega, by omega, by omega, by omega⟩
theorem rngD_mem {i : Int} {n : Nat} {d : D} (h : d ∈ rngD i n) : ∃ k : Nat, k < n ∧ d = .int (i + k) := by
  obtain ⟨k, hk, rfl⟩ := List.mem_map.mp h
  exact ⟨k, List.mem_range.mp hk, rfl⟩
end
section
variable {T : FT} {fr : Bool} {a b : CS} {c : CE} {env : Env}
theorem ex_skip : exec T fr .skip env = .nx env := nd rfl
theorem ex_seq : exec T fr (.seq a b) env = (exec T fr a env).then fun e => exec T fr b e := nd rfl
def asgO (T : FT) (tg : Tg) (c : CE) (d : D) (env : Env) : O := (asgE T tg c d env).toO .nx
theorem ex_asg {tg : Tg} : exec T fr (.asg tg c) env = (ev T c env).toO fun d => asgO T tg c d env := nd rfl
theorem asgO_one {i : Nat} {d : D} (hz : freeze (lk0 c) env = env) (hi : decide (i < env.length) = true) : asgO T (.one i) c d env = .nx (env.set i (some (d, if (fresh T c && ownable d) = true then .own else .fro))) := by
  have he : env1 c d env = env := by unfold env1; rw [hz]; split <;> rfl
  unfold asgO asgE
  simp only [he, of_decide_eq_true hi, if_true, toO_ok]
theorem env1_id {d : D} (hz : freeze (lk0 c) env = env) : env1 c d env = env := by unfold env1; rw [hz]; split <;> rfl
theorem asgO_tup {is : List Nat} {d : D} (hz : freeze (lk0 c) env = env) : asgO T (.tup is) c d env = (bindT (.tup is) d env).toO .nx := by
  have he : env1 c d env = env := by unfold env1; rw [hz]; split <;> rfl
  unfold asgO asgE
  rw [he]
theorem ex_if : exec T fr (.ifS c a b) env = (ev T c env).toO fun x => iteO x (exec T fr a env) (exec T fr b env) := nd rfl
def retO (T : FT) (fr : Bool) (c : CE) (d : D) : O := if retOk T fr c d then .rt d else .st
theorem retO_f (d : D) : retO T false c d = .rt d := nd rfl
theorem retO_a {d : D} (h : ownable d = false) : retO T fr c d = .rt d := by
  unfold retO retOk
  rw [h]; cases fr <;> rfl
theorem retO_t {d : D} (h : fresh T c = true) : retO T fr c d = .rt d := by
  unfold retO retOk
  rw [h]; simp
theorem ex_ret : exec T fr (.ret c) env = (ev T c env).toO (retO T fr c) := nd rfl
theorem ex_retN : exec T fr .retN env = .rt .none := nd rfl
def retVO (fr : Bool) (env : Env) (i : Nat) : O := match env[i]? with
    | some (some (d, fl)) => if !fr || !ownable d || decide (fl = .own) then .rt d else .st
    | _ => .st
theorem ex_retV {i : Nat} : exec T fr (.retV i) env = retVO fr env i := nd rfl
theorem ex_expr : exec T fr (.exprS c) env = (ev T c env).toO fun _ => .nx env := nd rfl
theorem ex_raise {n : String} : exec T fr (.raise n) env = .ex n := nd rfl
/-- a turn of a loop -/
def turn (T : FT) (fr : Bool) (tg : Tg) (body : CS) : D → Env → O := fun d e => (bindT tg d e).toO fun e' => exec T fr body e'
def forO (T : FT) (fr : Bool) (tg : Tg) (it : CI) (body : CS) (env : Env) (ds : List D) : O :=
  (forL (turn T fr tg body) ds (lockL (lkI0 it) (freeze (lkI it) env))).then fun e => .nx (unlockL (lkI0 it) (freeze (lkI it) env) e)
theorem ex_for {tg : Tg} {it : CI} : exec T fr (.forS tg it a) env = (its T it env).toO (forO T fr tg it a env) := nd rfl
theorem ex_while : exec T fr (.whileS c a) env = whL (fun e => ev T c e) (fun e => exec T fr a e) wfuel env := nd rfl
/-- a name's list gets one more -/
def appO (i : Nat) (c : CE) (env : Env) (r : R D) : O := match env[i]? with
    | some (some (.list _, .own)) => r.toO fun d => match (env1 c d env)[i]? with
      | some (some (.list xs, .own)) => if xs.length < lim then .nx ((env1 c d env).set i (some (.list (xs ++ [d]), .own))) else .st
      | _ => .st
    | _ => .st
/-- .. at a place -/
def insO (i : Nat) (c : CE) (env : Env) (r r' : R D) : O := match env[i]? with
    | some (some (.list _, .own)) => r.toO fun j => r'.toO fun d => match j, (env1 c d env)[i]? with
      | .int j, some (some (.list xs, .own)) => if xs.length < lim ∧ 0 ≤ j ∧ j < 2 ^ 63 then .nx ((env1 c d env).set i (some (.list (xs.take j.toNat ++ [d] ++ xs.drop j.toNat), .own))) else .st
      | _, _ => .st
    | _ => .st
def extO (i : Nat) (c : CE) (env : Env) (r : R D) : O := match env[i]? with
    | some (some (.list _, .own)) => r.toO fun d => match (freeze (lk1 c) env)[i]?, itemsOf d with
      | some (some (.list xs, .own)), some ds => if xs.length + ds.length ≤ lim then .nx ((freeze (lk1 c) env).set i (some (.list (xs ++ ds), .own))) else .st
      | _, _ => .st
    | _ => .st
theorem ex_ext {i : Nat} : exec T fr (.ext i c) env = extO i c env (ev T c env) := nd rfl
def augO (o : B2) (i : Nat) (env : Env) (r : R D) : O := match env[i]? with
    | some (some (.int a, _)) => r.toO fun d => match augD o a d with | some z => .nx (env.set i (some (.int z, .fro))) | none => .st
    | _ => .st
theorem ex_aug {o : B2} {i : Nat} : exec T fr (.aug o i c) env = augO o i env (ev T c env) := nd rfl
theorem augO_add {i : Nat} {a b : Int} {f : Fl} (h : env[i]? = some (some (.int a, f))) : augO .add i env (.ok (.int b)) = .nx (env.set i (some (.int (a + b), .fro))) := by unfold augO; rw [h]; rfl
theorem augO_sub {i : Nat} {a b : Int} {f : Fl} (h : env[i]? = some (some (.int a, f))) : augO .sub i env (.ok (.int b)) = .nx (env.set i (some (.int (a - b), .fro))) := by unfold augO; rw [h]; rfl
theorem extO_l {i : Nat} {xs ds : List D} (hz : freeze (lk1 c) env = env) (h : env[i]? = some (some (.list xs, .own))) (hl : xs.length + ds.length ≤ lim) : extO i c env (.ok (.list ds)) = .nx (env.set i (some (.list (xs ++ ds), .own))) := by
  unfold extO
  rw [h, hz]
  show (match env[i]?, itemsOf (.list ds) with | some (some (.list xs, .own)), some ds => if xs.length + ds.length ≤ lim then O.nx (env.set i (some (.list (xs ++ ds), .own))) else .st | _, _ => .st) = _
  rw [h]; exact if_pos hl
theorem extO_t {i : Nat} {xs ds : List D} (hz : freeze (lk1 c) env = env) (h : env[i]? = some (some (.list xs, .own))) (hl : xs.length + ds.length ≤ lim) : extO i c env (.ok (.tuple ds)) = .nx (env.set i (some (.list (xs ++ ds), .own))) := by
  unfold extO
  rw [h, hz]
  show (match env[i]?, itemsOf (.tuple ds) with | some (some (.list xs, .own)), some ds => if xs.length + ds.length ≤ lim then O.nx (env.set i (some (.list (xs ++ ds), .own))) else .st | _, _ => .st) = _
  rw [h]; exact if_pos hl
theorem ex_ins {i : Nat} {k : CE} : exec T fr (.ins i k c) env = insO i c env (ev T k env) (ev T c env) := nd rfl
theorem ex_app {i : Nat} : exec T fr (.app i c) env = appO i c env (ev T c env) := nd rfl
end
/-! ### the operators -/
theorem add_i (a b : Int) : op2 .add (.int a) (.int b) = .ok (.int (a + b)) := nd rfl
theorem sub_i (a b : Int) : op2 .sub (.int a) (.int b) = .ok (.int (a - b)) := nd rfl
theorem mul_l (a b : Int) (h : -18446744073709551616 < a) (h2 : a < 18446744073709551616) : op2 .mul (.int a) (.int b) = .ok (.int (a * b)) := if_pos (.inl ⟨by simpa using h, by simpa using h2⟩)
theorem mul_r (a b : Int) (h : -18446744073709551616 < b) (h2 : b < 18446744073709551616) : op2 .mul (.int a) (.int b) = .ok (.int (a * b)) := if_pos (.inr ⟨by simpa using h, by simpa using h2⟩)
theorem fdiv_i (a b : Int) (h : 0 < b) (h2 : b < 1073741824) : op2 .fdiv (.int a) (.int b) = .ok (.int (a / b)) := if_pos ⟨h, h2⟩
theorem mod_i (a b : Int) (h : 0 < b) : op2 .mod (.int a) (.int b) = .ok (.int (a % b)) := if_pos h
theorem eq_i (a b : Int) : op2 .eq (.int a) (.int b) = .ok (.bool (decide (a = b))) := by
  show R.ok (PyData.bool (a == b)) = _
  by_cases h : a = b <;> simp [h]
theorem ne_i (a b : Int) : op2 .ne (.int a) (.int b) = .ok (.bool (!decide (a = b))) := by
  show R.ok (PyData.bool (!(a == b))) = _
  by_cases h : a = b <;> simp [h]
theorem eq_b (a b : Bool) : op2 .eq (.bool a) (.bool b) = .ok (.bool (a == b)) := nd rfl
theorem ne_b (a b : Bool) : op2 .ne (.bool a) (.bool b) = .ok (.bool (!(a == b))) := nd rfl
theorem lt_i (a b : Int) : op2 .lt (.int a) (.int b) = .ok (.bool (decide (a < b))) := nd rfl
theorem le_i (a b : Int) : op2 .le (.int a) (.int b) = .ok (.bool (decide (a ≤ b))) := nd rfl
theorem gt_i (a b : Int) : op2 .gt (.int a) (.int b) = .ok (.bool (decide (b < a))) := nd rfl
theorem ge_i (a b : Int) : op2 .ge (.int a) (.int b) = .ok (.bool (decide (b ≤ a))) := nd rfl
theorem is_b (a b : Bool) : op2 .is_ (.bool a) (.bool b) = .ok (.bool (decide (a = b))) := nd rfl
theorem min_i (a b : Int) : op2 .min2 (.int a) (.int b) = .ok (.int (if b < a then b else a)) := nd rfl
theorem max_i (a b : Int) : op2 .max2 (.int a) (.int b) = .ok (.int (if b > a then b else a)) := nd rfl
def atR (xs : List D) (i : Int) : R D := match L2.atI xs i with | some d => .ok d | none => .stuck
theorem idx_t (xs : List D) (i : Int) : op2 .idx (.tuple xs) (.int i) = atR xs i := by unfold atR; rfl
theorem idx_l (xs : List D) (i : Int) : op2 .idx (.list xs) (.int i) = atR xs i := by unfold atR; rfl
theorem atR0 (x : D) (xs : List D) : atR (x :: xs) 0 = .ok x := by
  unfold atR; rw [show L2.atI (x :: xs) 0 = some x from L2.atI_nat (j := 0) rfl]
theorem atR1 (x y : D) (xs : List D) : atR (x :: y :: xs) 1 = .ok y := by
  unfold atR; rw [show L2.atI (x :: y :: xs) 1 = some y from L2.atI_nat (j := 1) rfl]
theorem atR_j {xs : List D} {j : Nat} (h : j < xs.length) : atR xs (j : Int) = .ok xs[j] := by
  unfold atR; rw [L2.atI_nat (j := j) (v := xs[j]) (by simp [h])]
theorem atR_j1 {xs : List D} {j : Nat} (h : j + 1 < xs.length) : atR xs ((j : Int) + 1) = .ok xs[j + 1] := atR_j (j := j + 1) h
theorem atR_in {xs : List D} {i : Int} (h0 : 0 ≤ i) (h1 : i < xs.length) : ∃ d, d ∈ xs ∧ atR xs i = .ok d := by
  obtain ⟨j, rfl⟩ := Int.eq_ofNat_of_zero_le h0
  have hj : j < xs.length := by omega
  exact ⟨xs[j], List.getElem_mem hj, atR_j hj⟩
theorem add_t (a b : List D) (h : a.length + b.length ≤ lim) : op2 .add (.tuple a) (.tuple b) = .ok (.tuple (a ++ b)) := if_pos h
theorem add_l (a b : List D) (h : a.length + b.length ≤ lim) : op2 .add (.list a) (.list b) = .ok (.list (a ++ b)) := if_pos h
theorem len_t (xs : List D) : op1 .len (.tuple xs) = .ok (.int xs.length) := nd rfl
theorem len_l (xs : List D) : op1 .len (.list xs) = .ok (.int xs.length) := nd rfl
theorem tup_l (xs : List D) : op1 .tupleOf (.list xs) = .ok (.tuple xs) := nd rfl
theorem tup_t (xs : List D) : op1 .tupleOf (.tuple xs) = .ok (.tuple xs) := nd rfl
theorem lst_l (xs : List D) : op1 .listOf (.list xs) = .ok (.list xs) := nd rfl
theorem lst_t (xs : List D) : op1 .listOf (.tuple xs) = .ok (.list xs) := nd rfl
theorem neg_i (i : Int) : op1 .neg (.int i) = .ok (.int (-i)) := nd rfl
theorem ix_i (i : Int) : op1 .ix (.int i) = .ok (.int i) := nd rfl
theorem rev_t (xs : List D) : op1 .rev (.tuple xs) = .ok (.tuple xs.reverse) := nd rfl
theorem rev_l (xs : List D) : op1 .rev (.list xs) = .ok (.list xs.reverse) := nd rfl
theorem str_i (i : Int) (h : i.natAbs < 18446744073709551616) : op1 .strOf (.int i) = .ok (.str (Str.ofString (toString i))) := if_pos (by simpa using h)
theorem boolsOf_map {α : Type} (p : α → Bool) : ∀ ds : List α, boolsOf (ds.map fun d => .bool (p d)) = some (ds.map p)
  | [] => rfl
  | d :: ds => by
    show (boolsOf (ds.map fun d => .bool (p d))).map (p d :: ·) = _
    rw [boolsOf_map p ds]; rfl
theorem intsOf_map : ∀ ds : List Int, intsOf (ds.map .int) = some ds
  | [] => rfl
  | d :: ds => by
    show (intsOf (ds.map .int)).map (d :: ·) = _
    rw [intsOf_map ds]; rfl
theorem all_m {α : Type} (p : α → Bool) (ds : List α) : op1 .all (.list (ds.map fun d => .bool (p d))) = .ok (.bool (ds.all p)) := by
  show (match boolsOf _ with | some bs => R.ok (PyData.bool (bs.all id)) | none => .stuck) = _
  rw [boolsOf_map]
  simp
theorem any_m {α : Type} (p : α → Bool) (ds : List α) : op1 .any (.list (ds.map fun d => .bool (p d))) = .ok (.bool (ds.any p)) := by
  show (match boolsOf _ with | some bs => R.ok (PyData.bool (bs.any id)) | none => .stuck) = _
  rw [boolsOf_map]
  simp
theorem sum_m (ds : List Int) : op1 .sum (.list (ds.map .int)) = .ok (.int ds.sum) := by
  show (match intsOf _ with | some bs => R.ok (PyData.int bs.sum) | none => .stuck) = _
  rw [intsOf_map]
theorem sl_t (xs : List D) (l h : Option Int) : sliceD (.tuple xs) l h = .ok (.tuple (cutD xs l h)) := nd rfl
theorem sl_l (xs : List D) (l h : Option Int) : sliceD (.list xs) l h = .ok (.list (cutD xs l h)) := nd rfl
theorem partR_n : partR .none = .ok none := nd rfl
theorem partR_i (i : Int) : partR (.int i) = .ok (some i) := nd rfl
theorem cut_len (xs : List D) (l h : Option Int) : (cutD xs l h).length ≤ xs.length := by
  unfold cutD
  rw [List.length_take, List.length_drop]; omega
/-! ### comprehensions, loops -/
theorem lcLoop_map {f : D → R (Option D)} (g : D → D) {ds : List D} (h : ∀ d, d ∈ ds → f d = .ok (some (g d))) : lcLoop f ds = .ok (ds.map g) := by
  induction ds with
  | nil => rfl
  | cons d ds ih =>
    unfold lcLoop
    rw [h d List.mem_cons_self, ih fun d hd => h d (List.mem_cons_of_mem _ hd)]
    rfl
theorem lcLoop_map2 {α : Type} {f : D → R (Option D)} {e : α → D} (g : α → D) {ts : List α} (h : ∀ t, t ∈ ts → f (e t) = .ok (some (g t))) : lcLoop f (ts.map e) = .ok (ts.map g) := by
  induction ts with
  | nil => rfl
  | cons d ds ih =>
    rw [List.map_cons, List.map_cons]
    unfold lcLoop
    rw [h d List.mem_cons_self, ih fun d hd => h d (List.mem_cons_of_mem _ hd)]
    rfl
theorem lcLoop_filter {f : D → R (Option D)} (g : D → Option D) {ds : List D} (h : ∀ d, d ∈ ds → f d = .ok (g d)) : lcLoop f ds = .ok (ds.filterMap g) := by
  induction ds with
  | nil => rfl
  | cons d ds ih =>
    unfold lcLoop
    rw [h d List.mem_cons_self, ih fun d hd => h d (List.mem_cons_of_mem _ hd)]
    cases hg : g d <;> simp [R.bind, hg]
/-- a loop that runs through, an invariant kept -/
theorem forL_nx {f : D → Env → O} (P : Nat → Env → Prop) {ds : List D} : ∀ {env : Env}, P 0 env → (∀ i d e, ds[i]? = some d → P i e → ∃ e', f d e = .nx e' ∧ P (i + 1) e') → ∃ e', forL f ds env = .nx e' ∧ P ds.length e' := by
  induction ds generalizing P with
  | nil => exact fun h _ => ⟨_, rfl, h⟩
  | cons d ds ih =>
    intro env h hs
    obtain ⟨e1, h1, p1⟩ := hs 0 d env rfl h
    obtain ⟨e2, h2, p2⟩ := ih (fun i e => P (i + 1) e) p1 fun i d' e hd p => hs (i + 1) d' e (by simpa using hd) p
    exact ⟨e2, by unfold forL; rw [h1]; exact h2, by simpa using p2⟩
/-- a loop that runs through or returns -/
theorem forL_any {f : D → Env → O} (P : Nat → Env → Prop) (Q : O → Prop) {ds : List D} : ∀ {env : Env}, P 0 env → (∀ i d e, ds[i]? = some d → P i e → (∃ e', f d e = .nx e' ∧ P (i + 1) e') ∨ (Q (f d e) ∧ ∀ e', f d e ≠ .nx e')) → (∃ e', forL f ds env = .nx e' ∧ P ds.length e') ∨ Q (forL f ds env) := by
  induction ds generalizing P with
  | nil => exact fun h _ => .inl ⟨_, rfl, h⟩
  | cons d ds ih =>
    intro env h hs
    rcases hs 0 d env rfl h with ⟨e1, h1, p1⟩ | ⟨q, hn⟩
    · rcases ih (fun i e => P (i + 1) e) p1 (fun i d' e hd p => hs (i + 1) d' e (by simpa using hd) p) with ⟨e2, h2, p2⟩ | h2
      · exact .inl ⟨e2, by unfold forL; rw [h1]; exact h2, by simpa using p2⟩
      · exact .inr (by unfold forL; rw [h1]; exact h2)
    · refine .inr ?_
      unfold forL
      cases hf : f d env with
      | nx e' => exact absurd hf (hn e')
      | rt d => rw [hf] at q; exact q
      | ex d => rw [hf] at q; exact q
      | st => rw [hf] at q; exact q
theorem isi_none_int  : isiD (.none ) .int = false := nd rfl
theorem isi_none_bool  : isiD (.none ) .bool = false := nd rfl
theorem isi_none_str  : isiD (.none ) .str = false := nd rfl
theorem isi_none_tuple  : isiD (.none ) .tuple = false := nd rfl
theorem isi_none_list  : isiD (.none ) .list = false := nd rfl
theorem isi_none_dict  : isiD (.none ) .dict = false := nd rfl
theorem isi_bool_int (b : Bool) : isiD (.bool b) .int = true := nd rfl
theorem isi_bool_bool (b : Bool) : isiD (.bool b) .bool = true := nd rfl
theorem isi_bool_str (b : Bool) : isiD (.bool b) .str = false := nd rfl
theorem isi_bool_tuple (b : Bool) : isiD (.bool b) .tuple = false := nd rfl
theorem isi_bool_list (b : Bool) : isiD (.bool b) .list = false := nd rfl
theorem isi_bool_dict (b : Bool) : isiD (.bool b) .dict = false := nd rfl
theorem isi_int_int (b : Int) : isiD (.int b) .int = true := nd rfl
theorem isi_int_bool (b : Int) : isiD (.int b) .bool = false := nd rfl
theorem isi_int_str (b : Int) : isiD (.int b) .str = false := nd rfl
theorem isi_int_tuple (b : Int) : isiD (.int b) .tuple = false := nd rfl
theorem isi_int_list (b : Int) : isiD (.int b) .list = false := nd rfl
theorem isi_int_dict (b : Int) : isiD (.int b) .dict = false := nd rfl
theorem isi_str_int (b : Str) : isiD (.str b) .int = false := nd rfl
theorem isi_str_bool (b : Str) : isiD (.str b) .bool = false := nd rfl
theorem isi_str_str (b : Str) : isiD (.str b) .str = true := nd rfl
theorem isi_str_tuple (b : Str) : isiD (.str b) .tuple = false := nd rfl
theorem isi_str_list (b : Str) : isiD (.str b) .list = false := nd rfl
theorem isi_str_dict (b : Str) : isiD (.str b) .dict = false := nd rfl
theorem isi_list_int (b : List D) : isiD (.list b) .int = false := nd rfl
theorem isi_list_bool (b : List D) : isiD (.list b) .bool = false := nd rfl
theorem isi_list_str (b : List D) : isiD (.list b) .str = false := nd rfl
theorem isi_list_tuple (b : List D) : isiD (.list b) .tuple = false := nd rfl
theorem isi_list_list (b : List D) : isiD (.list b) .list = true := nd rfl
theorem isi_list_dict (b : List D) : isiD (.list b) .dict = false := nd rfl
theorem isi_tuple_int (b : List D) : isiD (.tuple b) .int = false := nd rfl
theorem isi_tuple_bool (b : List D) : isiD (.tuple b) .bool = false := nd rfl
theorem isi_tuple_str (b : List D) : isiD (.tuple b) .str = false := nd rfl
theorem isi_tuple_tuple (b : List D) : isiD (.tuple b) .tuple = true := nd rfl
theorem isi_tuple_list (b : List D) : isiD (.tuple b) .list = false := nd rfl
theorem isi_tuple_dict (b : List D) : isiD (.tuple b) .dict = false := nd rfl
theorem isi_dict_int (b : List (D × D)) : isiD (.dict b) .int = false := nd rfl
theorem isi_dict_bool (b : List (D × D)) : isiD (.dict b) .bool = false := nd rfl
theorem isi_dict_str (b : List (D × D)) : isiD (.dict b) .str = false := nd rfl
theorem isi_dict_tuple (b : List (D × D)) : isiD (.dict b) .tuple = false := nd rfl
theorem isi_dict_list (b : List (D × D)) : isiD (.dict b) .list = false := nd rfl
theorem isi_dict_dict (b : List (D × D)) : isiD (.dict b) .dict = true := nd rfl
theorem cast0 : ((0 : Nat) : Int) = 0 := nd rfl
theorem cast1 : ((1 : Nat) : Int) = 1 := nd rfl
theorem cast2 : ((2 : Nat) : Int) = 2 := nd rfl
theorem cast3 : ((3 : Nat) : Int) = 3 := nd rfl
theorem start_cons (n : Nat) (d : D) (ds : List D) : start (n + 1) (d :: ds) = some (d, .fro) :: start n ds := by simp [start]
theorem start_nil1 (n : Nat) : start (n + 1) [] = none :: start n [] := nd rfl
theorem start_nil0 : start 0 [] = [] := nd rfl
theorem atR_of {xs : List D} {i : Int} (P : D → Prop) (h0 : 0 ≤ i) (h1 : i < xs.length) (h : ∀ d, d ∈ xs → P d) : ∃ d, P d ∧ atR xs i = .ok d := by
  obtain ⟨d, m, e⟩ := atR_in h0 h1
  exact ⟨d, h d m, e⟩
theorem rngD_len (i : Int) (n : Nat) : (rngD i n).length = n := by simp [rngD]

end L3

set_option Elab.async false
set_option linter.all false
set_option maxRecDepth 100000
set_option maxHeartbeats 4000000
namespace L3
open PySem
def c__law_cell_at : FDef := ⟨2, 2, false,
    (.seq (.ifS (.b .lt (.var 1) (.u .len (.var 0)))
    (.ret (.b .idx (.var 0) (.var 1)))
    .skip)
    (.ret (.cn (.int 0))))⟩
def c__law_draw_b0 : CS := (.seq (.ifS (.b .eq (.var 3) (.cn (.int 0)))
    (.ret (.cn (.int 0)))
    .skip)
    (.asg (.one 3) (.b .fdiv (.var 3) (.var 2))))
def c__law_draw : FDef := ⟨3, 6, false,
    (.seq (.ifS (.b .ge (.var 0) (.b .pow (.cn (.int 10)) (.cn (.int 18))))
    (.seq (.asg (.one 3) (.var 0))
    (.seq (.forS (.one 4) (.rng1 (.var 1)) c__law_draw_b0)
    (.ret (.b .mod (.var 3) (.var 2)))))
    .skip)
    (.seq (.asg (.one 5) (.b .mod (.b .mul (.b .add (.b .add (.b .mod (.var 0) (.cn (.int 1000000007))) (.b .mul (.cn (.int 1009)) (.var 1))) (.cn (.int 17))) (.cn (.int 69621))) (.cn (.int 2147483647))))
    (.seq (.asg (.one 5) (.b .mod (.b .add (.b .add (.b .mul (.var 5) (.var 5)) (.b .mul (.cn (.int 40503)) (.var 1))) (.cn (.int 5))) (.cn (.int 2147483629))))
    (.ret (.b .mod (.b .fdiv (.b .mod (.b .mul (.var 5) (.cn (.int 48271))) (.cn (.int 2147483647))) (.cn (.int 32))) (.var 2))))))⟩
theorem cell_at_eq {T : Tab} (k : Nat) (h : T "_law_cell_at" = some c__law_cell_at) (ns : List Int) (j : Nat) : ∃ c : Int, callT T (k + 1) "_law_cell_at" [.list (ns.map .int), .int j] = .ok (.int c) := by
  rw [L3.callT_eq _ h rfl]
  by_cases hj : j < (ns.map PyData.int).length
  · simp only [bind_ok, bind_stuck, bind_ite, toO_ok, toO_exc, toO_ite, nox_ok, nox_ite, then_nx, then_rt, then_ex, then_st, then_ite, toR_rt, toR_nx, toR_ex, toR_ite, iteR_and, iteR_or, iteR_b, iteO_b, notD_b, getV0, getV1, getVs, ev_cn, ev_var, ev_tup, ev_lst, ev_dct0, ev_u, ev_b, ev_and, ev_or, ev_not, ev_chain, ev_ite, ev_sl, ev_isi, ev_call, ev_lc, evs_nil, evs_cons, itemsR_l, itemsR_t, its_seq, its_rng1, its_rng2, ev_rg, rgs_1, rgs_2, its_enum, its_zip, its_rev, enumR_l, enumR_t, revR_l, revR_t, rgD_t, rgD_l, lcC_t, lcD, ex_skip, ex_seq, ex_asg, ex_if, ex_ret, ex_retN, ex_retV, ex_expr, ex_raise, ex_for, ex_while, ex_app, ex_ins, ex_ext, ex_aug, retO_f, add_i, sub_i, fdiv_i, mod_i, eq_i, ne_i, eq_b, ne_b, lt_i, le_i, gt_i, ge_i, is_b, min_i, max_i, idx_t, idx_l, atR0, atR1, len_t, len_l, tup_l, tup_t, lst_l, lst_t, neg_i, ix_i, rev_t, rev_l, sl_t, sl_l, partR_n, partR_i, isi_none_int, isi_none_bool, isi_none_str, isi_none_tuple, isi_none_list, isi_none_dict, isi_bool_int, isi_bool_bool, isi_bool_str, isi_bool_tuple, isi_bool_list, isi_bool_dict, isi_int_int, isi_int_bool, isi_int_str, isi_int_tuple, isi_int_list, isi_int_dict, isi_str_int, isi_str_bool, isi_str_str, isi_str_tuple, isi_str_list, isi_str_dict, isi_list_int, isi_list_bool, isi_list_str, isi_list_tuple, isi_list_list, isi_list_dict, isi_tuple_int, isi_tuple_bool, isi_tuple_str, isi_tuple_tuple, isi_tuple_list, isi_tuple_dict, isi_dict_int, isi_dict_bool, isi_dict_str, isi_dict_tuple, isi_dict_list, isi_dict_dict, start_cons, start_nil1, start_nil0, Bool.not_true, Bool.not_false, decide_eq_true_eq, Bool.not_eq_true', decide_eq_false_iff_not, Bool.false_eq_true, if_false, if_true, reduceIte, List.nil_append, List.append_nil, List.cons_append, asgO_one, asgO_tup, env1_id, decide_true, lk0, lk1, lks, lkI, lkI0, freeze, freeze1, lockL, lock1, unlockL, unlock1, bindT, bindTs, fresh, ownable, wipeE, List.getElem?_cons_zero, List.getElem?_cons_succ, List.set_cons_zero, List.set_cons_succ, List.length_cons, List.length_nil, Bool.false_and, Bool.true_and, Bool.and_true, Bool.and_false, Nat.reduceAdd, Nat.reduceLT, Nat.reduceLeDiff, Option.some.injEq, reduceCtorEq, c__law_cell_at, atR_j hj]
    refine ⟨ns[j]'(by simpa using hj), ?_⟩
    rw [if_pos (by omega)]
    simp
  · refine ⟨0, ?_⟩
    simp only [bind_ok, bind_stuck, bind_ite, toO_ok, toO_exc, toO_ite, nox_ok, nox_ite, then_nx, then_rt, then_ex, then_st, then_ite, toR_rt, toR_nx, toR_ex, toR_ite, iteR_and, iteR_or, iteR_b, iteO_b, notD_b, getV0, getV1, getVs, ev_cn, ev_var, ev_tup, ev_lst, ev_dct0, ev_u, ev_b, ev_and, ev_or, ev_not, ev_chain, ev_ite, ev_sl, ev_isi, ev_call, ev_lc, evs_nil, evs_cons, itemsR_l, itemsR_t, its_seq, its_rng1, its_rng2, ev_rg, rgs_1, rgs_2, its_enum, its_zip, its_rev, enumR_l, enumR_t, revR_l, revR_t, rgD_t, rgD_l, lcC_t, lcD, ex_skip, ex_seq, ex_asg, ex_if, ex_ret, ex_retN, ex_retV, ex_expr, ex_raise, ex_for, ex_while, ex_app, ex_ins, ex_ext, ex_aug, retO_f, add_i, sub_i, fdiv_i, mod_i, eq_i, ne_i, eq_b, ne_b, lt_i, le_i, gt_i, ge_i, is_b, min_i, max_i, idx_t, idx_l, atR0, atR1, len_t, len_l, tup_l, tup_t, lst_l, lst_t, neg_i, ix_i, rev_t, rev_l, sl_t, sl_l, partR_n, partR_i, isi_none_int, isi_none_bool, isi_none_str, isi_none_tuple, isi_none_list, isi_none_dict, isi_bool_int, isi_bool_bool, isi_bool_str, isi_bool_tuple, isi_bool_list, isi_bool_dict, isi_int_int, isi_int_bool, isi_int_str, isi_int_tuple, isi_int_list, isi_int_dict, isi_str_int, isi_str_bool, isi_str_str, isi_str_tuple, isi_str_list, isi_str_dict, isi_list_int, isi_list_bool, isi_list_str, isi_list_tuple, isi_list_list, isi_list_dict, isi_tuple_int, isi_tuple_bool, isi_tuple_str, isi_tuple_tuple, isi_tuple_list, isi_tuple_dict, isi_dict_int, isi_dict_bool, isi_dict_str, isi_dict_tuple, isi_dict_list, isi_dict_dict, start_cons, start_nil1, start_nil0, Bool.not_true, Bool.not_false, decide_eq_true_eq, Bool.not_eq_true', decide_eq_false_iff_not, Bool.false_eq_true, if_false, if_true, reduceIte, List.nil_append, List.append_nil, List.cons_append, asgO_one, asgO_tup, env1_id, decide_true, lk0, lk1, lks, lkI, lkI0, freeze, freeze1, lockL, lock1, unlockL, unlock1, bindT, bindTs, fresh, ownable, wipeE, List.getElem?_cons_zero, List.getElem?_cons_succ, List.set_cons_zero, List.set_cons_succ, List.length_cons, List.length_nil, Bool.false_and, Bool.true_and, Bool.and_true, Bool.and_false, Nat.reduceAdd, Nat.reduceLT, Nat.reduceLeDiff, Option.some.injEq, reduceCtorEq, c__law_cell_at]
    rw [if_neg (by omega)]
theorem draw_eq {T : Tab} (k : Nat) (h : T "_law_draw" = some c__law_draw) (c : Int) (j b : Int) (hj : 0 ≤ j) (hj2 : j ≤ 1000000) (hb : 0 < b) (hb2 : b < 1073741824) : ∃ r : Int, 0 ≤ r ∧ r < b ∧ callT T (k + 1) "_law_draw" [.int c, .int j, .int b] = .ok (.int r) := by
  rw [L3.callT_eq _ h rfl]
  have hp : op2 .pow (.int 10) (.int 18) = .ok (.int 1000000000000000000) := rfl
  simp only [bind_ok, bind_stuck, bind_ite, toO_ok, toO_exc, toO_ite, nox_ok, nox_ite, then_nx, then_rt, then_ex, then_st, then_ite, toR_rt, toR_nx, toR_ex, toR_ite, iteR_and, iteR_or, iteR_b, iteO_b, notD_b, getV0, getV1, getVs, ev_cn, ev_var, ev_tup, ev_lst, ev_dct0, ev_u, ev_b, ev_and, ev_or, ev_not, ev_chain, ev_ite, ev_sl, ev_isi, ev_call, ev_lc, evs_nil, evs_cons, itemsR_l, itemsR_t, its_seq, its_rng1, its_rng2, ev_rg, rgs_1, rgs_2, its_enum, its_zip, its_rev, enumR_l, enumR_t, revR_l, revR_t, rgD_t, rgD_l, lcC_t, lcD, ex_skip, ex_seq, ex_asg, ex_if, ex_ret, ex_retN, ex_retV, ex_expr, ex_raise, ex_for, ex_while, ex_app, ex_ins, ex_ext, ex_aug, retO_f, add_i, sub_i, fdiv_i, mod_i, eq_i, ne_i, eq_b, ne_b, lt_i, le_i, gt_i, ge_i, is_b, min_i, max_i, idx_t, idx_l, atR0, atR1, len_t, len_l, tup_l, tup_t, lst_l, lst_t, neg_i, ix_i, rev_t, rev_l, sl_t, sl_l, partR_n, partR_i, isi_none_int, isi_none_bool, isi_none_str, isi_none_tuple, isi_none_list, isi_none_dict, isi_bool_int, isi_bool_bool, isi_bool_str, isi_bool_tuple, isi_bool_list, isi_bool_dict, isi_int_int, isi_int_bool, isi_int_str, isi_int_tuple, isi_int_list, isi_int_dict, isi_str_int, isi_str_bool, isi_str_str, isi_str_tuple, isi_str_list, isi_str_dict, isi_list_int, isi_list_bool, isi_list_str, isi_list_tuple, isi_list_list, isi_list_dict, isi_tuple_int, isi_tuple_bool, isi_tuple_str, isi_tuple_tuple, isi_tuple_list, isi_tuple_dict, isi_dict_int, isi_dict_bool, isi_dict_str, isi_dict_tuple, isi_dict_list, isi_dict_dict, start_cons, start_nil1, start_nil0, Bool.not_true, Bool.not_false, decide_eq_true_eq, Bool.not_eq_true', decide_eq_false_iff_not, Bool.false_eq_true, if_false, if_true, reduceIte, List.nil_append, List.append_nil, List.cons_append, asgO_one, asgO_tup, env1_id, decide_true, lk0, lk1, lks, lkI, lkI0, freeze, freeze1, lockL, lock1, unlockL, unlock1, bindT, bindTs, fresh, ownable, wipeE, List.getElem?_cons_zero, List.getElem?_cons_succ, List.set_cons_zero, List.set_cons_succ, List.length_cons, List.length_nil, Bool.false_and, Bool.true_and, Bool.and_true, Bool.and_false, Nat.reduceAdd, Nat.reduceLT, Nat.reduceLeDiff, Option.some.injEq, reduceCtorEq, c__law_draw, hp]
  by_cases hc : 1000000000000000000 ≤ c
  · rw [if_pos hc]
    simp only [bind_ok, bind_stuck, bind_ite, toO_ok, toO_exc, toO_ite, nox_ok, nox_ite, then_nx, then_rt, then_ex, then_st, then_ite, toR_rt, toR_nx, toR_ex, toR_ite, iteR_and, iteR_or, iteR_b, iteO_b, notD_b, getV0, getV1, getVs, ev_cn, ev_var, ev_tup, ev_lst, ev_dct0, ev_u, ev_b, ev_and, ev_or, ev_not, ev_chain, ev_ite, ev_sl, ev_isi, ev_call, ev_lc, evs_nil, evs_cons, itemsR_l, itemsR_t, its_seq, its_rng1, its_rng2, ev_rg, rgs_1, rgs_2, its_enum, its_zip, its_rev, enumR_l, enumR_t, revR_l, revR_t, rgD_t, rgD_l, lcC_t, lcD, ex_skip, ex_seq, ex_asg, ex_if, ex_ret, ex_retN, ex_retV, ex_expr, ex_raise, ex_for, ex_while, ex_app, ex_ins, ex_ext, ex_aug, retO_f, add_i, sub_i, fdiv_i, mod_i, eq_i, ne_i, eq_b, ne_b, lt_i, le_i, gt_i, ge_i, is_b, min_i, max_i, idx_t, idx_l, atR0, atR1, len_t, len_l, tup_l, tup_t, lst_l, lst_t, neg_i, ix_i, rev_t, rev_l, sl_t, sl_l, partR_n, partR_i, isi_none_int, isi_none_bool, isi_none_str, isi_none_tuple, isi_none_list, isi_none_dict, isi_bool_int, isi_bool_bool, isi_bool_str, isi_bool_tuple, isi_bool_list, isi_bool_dict, isi_int_int, isi_int_bool, isi_int_str, isi_int_tuple, isi_int_list, isi_int_dict, isi_str_int, isi_str_bool, isi_str_str, isi_str_tuple, isi_str_list, isi_str_dict, isi_list_int, isi_list_bool, isi_list_str, isi_list_tuple, isi_list_list, isi_list_dict, isi_tuple_int, isi_tuple_bool, isi_tuple_str, isi_tuple_tuple, isi_tuple_list, isi_tuple_dict, isi_dict_int, isi_dict_bool, isi_dict_str, isi_dict_tuple, isi_dict_list, isi_dict_dict, start_cons, start_nil1, start_nil0, Bool.not_true, Bool.not_false, decide_eq_true_eq, Bool.not_eq_true', decide_eq_false_iff_not, Bool.false_eq_true, if_false, if_true, reduceIte, List.nil_append, List.append_nil, List.cons_append, asgO_one, asgO_tup, env1_id, decide_true, lk0, lk1, lks, lkI, lkI0, freeze, freeze1, lockL, lock1, unlockL, unlock1, bindT, bindTs, fresh, ownable, wipeE, List.getElem?_cons_zero, List.getElem?_cons_succ, List.set_cons_zero, List.set_cons_succ, List.length_cons, List.length_nil, Bool.false_and, Bool.true_and, Bool.and_true, Bool.and_false, Nat.reduceAdd, Nat.reduceLT, Nat.reduceLeDiff, Option.some.injEq, reduceCtorEq, rng1_ok (show -1000000 ≤ j by omega) (show j ≤ 16777216 by omega)]
    unfold forO
    simp only [bind_ok, bind_stuck, bind_ite, toO_ok, toO_exc, toO_ite, nox_ok, nox_ite, then_nx, then_rt, then_ex, then_st, then_ite, toR_rt, toR_nx, toR_ex, toR_ite, iteR_and, iteR_or, iteR_b, iteO_b, notD_b, getV0, getV1, getVs, ev_cn, ev_var, ev_tup, ev_lst, ev_dct0, ev_u, ev_b, ev_and, ev_or, ev_not, ev_chain, ev_ite, ev_sl, ev_isi, ev_call, ev_lc, evs_nil, evs_cons, itemsR_l, itemsR_t, its_seq, its_rng1, its_rng2, ev_rg, rgs_1, rgs_2, its_enum, its_zip, its_rev, enumR_l, enumR_t, revR_l, revR_t, rgD_t, rgD_l, lcC_t, lcD, ex_skip, ex_seq, ex_asg, ex_if, ex_ret, ex_retN, ex_retV, ex_expr, ex_raise, ex_for, ex_while, ex_app, ex_ins, ex_ext, ex_aug, retO_f, add_i, sub_i, fdiv_i, mod_i, eq_i, ne_i, eq_b, ne_b, lt_i, le_i, gt_i, ge_i, is_b, min_i, max_i, idx_t, idx_l, atR0, atR1, len_t, len_l, tup_l, tup_t, lst_l, lst_t, neg_i, ix_i, rev_t, rev_l, sl_t, sl_l, partR_n, partR_i, isi_none_int, isi_none_bool, isi_none_str, isi_none_tuple, isi_none_list, isi_none_dict, isi_bool_int, isi_bool_bool, isi_bool_str, isi_bool_tuple, isi_bool_list, isi_bool_dict, isi_int_int, isi_int_bool, isi_int_str, isi_int_tuple, isi_int_list, isi_int_dict, isi_str_int, isi_str_bool, isi_str_str, isi_str_tuple, isi_str_list, isi_str_dict, isi_list_int, isi_list_bool, isi_list_str, isi_list_tuple, isi_list_list, isi_list_dict, isi_tuple_int, isi_tuple_bool, isi_tuple_str, isi_tuple_tuple, isi_tuple_list, isi_tuple_dict, isi_dict_int, isi_dict_bool, isi_dict_str, isi_dict_tuple, isi_dict_list, isi_dict_dict, start_cons, start_nil1, start_nil0, Bool.not_true, Bool.not_false, decide_eq_true_eq, Bool.not_eq_true', decide_eq_false_iff_not, Bool.false_eq_true, if_false, if_true, reduceIte, List.nil_append, List.append_nil, List.cons_append, asgO_one, asgO_tup, env1_id, decide_true, lk0, lk1, lks, lkI, lkI0, freeze, freeze1, lockL, lock1, unlockL, unlock1, bindT, bindTs, fresh, ownable, wipeE, List.getElem?_cons_zero, List.getElem?_cons_succ, List.set_cons_zero, List.set_cons_succ, List.length_cons, List.length_nil, Bool.false_and, Bool.true_and, Bool.and_true, Bool.and_false, Nat.reduceAdd, Nat.reduceLT, Nat.reduceLeDiff, Option.some.injEq, reduceCtorEq]
    generalize hg : turn _ _ _ _ = g
    rcases forL_any (f := g) (fun _ e => ∃ (l : Int) (o : Option (D × Fl)), e = [some (.int c, .fro), some (.int j, .fro), some (.int b, .fro), some (.int l, .fro), o, none]) (fun o => o = .rt (.int 0)) (ds := rngD 0 j.toNat) (env := [some (.int c, .fro), some (.int j, .fro), some (.int b, .fro), some (.int c, .fro), none, none]) ⟨c, none, rfl⟩ (by
      rintro i d e hd ⟨l, o, rfl⟩
      subst hg
      unfold turn
      obtain ⟨m, hm, rfl⟩ := rngD_mem (List.mem_of_getElem? hd)
      simp only [bind_ok, bind_stuck, bind_ite, toO_ok, toO_exc, toO_ite, nox_ok, nox_ite, then_nx, then_rt, then_ex, then_st, then_ite, toR_rt, toR_nx, toR_ex, toR_ite, iteR_and, iteR_or, iteR_b, iteO_b, notD_b, getV0, getV1, getVs, ev_cn, ev_var, ev_tup, ev_lst, ev_dct0, ev_u, ev_b, ev_and, ev_or, ev_not, ev_chain, ev_ite, ev_sl, ev_isi, ev_call, ev_lc, evs_nil, evs_cons, itemsR_l, itemsR_t, its_seq, its_rng1, its_rng2, ev_rg, rgs_1, rgs_2, its_enum, its_zip, its_rev, enumR_l, enumR_t, revR_l, revR_t, rgD_t, rgD_l, lcC_t, lcD, ex_skip, ex_seq, ex_asg, ex_if, ex_ret, ex_retN, ex_retV, ex_expr, ex_raise, ex_for, ex_while, ex_app, ex_ins, ex_ext, ex_aug, retO_f, add_i, sub_i, fdiv_i, mod_i, eq_i, ne_i, eq_b, ne_b, lt_i, le_i, gt_i, ge_i, is_b, min_i, max_i, idx_t, idx_l, atR0, atR1, len_t, len_l, tup_l, tup_t, lst_l, lst_t, neg_i, ix_i, rev_t, rev_l, sl_t, sl_l, partR_n, partR_i, isi_none_int, isi_none_bool, isi_none_str, isi_none_tuple, isi_none_list, isi_none_dict, isi_bool_int, isi_bool_bool, isi_bool_str, isi_bool_tuple, isi_bool_list, isi_bool_dict, isi_int_int, isi_int_bool, isi_int_str, isi_int_tuple, isi_int_list, isi_int_dict, isi_str_int, isi_str_bool, isi_str_str, isi_str_tuple, isi_str_list, isi_str_dict, isi_list_int, isi_list_bool, isi_list_str, isi_list_tuple, isi_list_list, isi_list_dict, isi_tuple_int, isi_tuple_bool, isi_tuple_str, isi_tuple_tuple, isi_tuple_list, isi_tuple_dict, isi_dict_int, isi_dict_bool, isi_dict_str, isi_dict_tuple, isi_dict_list, isi_dict_dict, start_cons, start_nil1, start_nil0, Bool.not_true, Bool.not_false, decide_eq_true_eq, Bool.not_eq_true', decide_eq_false_iff_not, Bool.false_eq_true, if_false, if_true, reduceIte, List.nil_append, List.append_nil, List.cons_append, asgO_one, asgO_tup, env1_id, decide_true, lk0, lk1, lks, lkI, lkI0, freeze, freeze1, lockL, lock1, unlockL, unlock1, bindT, bindTs, fresh, ownable, wipeE, List.getElem?_cons_zero, List.getElem?_cons_succ, List.set_cons_zero, List.set_cons_succ, List.length_cons, List.length_nil, Bool.false_and, Bool.true_and, Bool.and_true, Bool.and_false, Nat.reduceAdd, Nat.reduceLT, Nat.reduceLeDiff, Option.some.injEq, reduceCtorEq, c__law_draw_b0, fdiv_i l b hb hb2]
      by_cases hl : l = 0
      · rw [if_pos hl]
        exact .inr ⟨rfl, fun e' => by intro z; cases z⟩
      · rw [if_neg hl]
        exact .inl ⟨_, rfl, _, _, rfl⟩) with ⟨e, he, l, o, rfl⟩ | hr
    · rw [he]
      simp only [bind_ok, bind_stuck, bind_ite, toO_ok, toO_exc, toO_ite, nox_ok, nox_ite, then_nx, then_rt, then_ex, then_st, then_ite, toR_rt, toR_nx, toR_ex, toR_ite, iteR_and, iteR_or, iteR_b, iteO_b, notD_b, getV0, getV1, getVs, ev_cn, ev_var, ev_tup, ev_lst, ev_dct0, ev_u, ev_b, ev_and, ev_or, ev_not, ev_chain, ev_ite, ev_sl, ev_isi, ev_call, ev_lc, evs_nil, evs_cons, itemsR_l, itemsR_t, its_seq, its_rng1, its_rng2, ev_rg, rgs_1, rgs_2, its_enum, its_zip, its_rev, enumR_l, enumR_t, revR_l, revR_t, rgD_t, rgD_l, lcC_t, lcD, ex_skip, ex_seq, ex_asg, ex_if, ex_ret, ex_retN, ex_retV, ex_expr, ex_raise, ex_for, ex_while, ex_app, ex_ins, ex_ext, ex_aug, retO_f, add_i, sub_i, fdiv_i, mod_i, eq_i, ne_i, eq_b, ne_b, lt_i, le_i, gt_i, ge_i, is_b, min_i, max_i, idx_t, idx_l, atR0, atR1, len_t, len_l, tup_l, tup_t, lst_l, lst_t, neg_i, ix_i, rev_t, rev_l, sl_t, sl_l, partR_n, partR_i, isi_none_int, isi_none_bool, isi_none_str, isi_none_tuple, isi_none_list, isi_none_dict, isi_bool_int, isi_bool_bool, isi_bool_str, isi_bool_tuple, isi_bool_list, isi_bool_dict, isi_int_int, isi_int_bool, isi_int_str, isi_int_tuple, isi_int_list, isi_int_dict, isi_str_int, isi_str_bool, isi_str_str, isi_str_tuple, isi_str_list, isi_str_dict, isi_list_int, isi_list_bool, isi_list_str, isi_list_tuple, isi_list_list, isi_list_dict, isi_tuple_int, isi_tuple_bool, isi_tuple_str, isi_tuple_tuple, isi_tuple_list, isi_tuple_dict, isi_dict_int, isi_dict_bool, isi_dict_str, isi_dict_tuple, isi_dict_list, isi_dict_dict, start_cons, start_nil1, start_nil0, Bool.not_true, Bool.not_false, decide_eq_true_eq, Bool.not_eq_true', decide_eq_false_iff_not, Bool.false_eq_true, if_false, if_true, reduceIte, List.nil_append, List.append_nil, List.cons_append, asgO_one, asgO_tup, env1_id, decide_true, lk0, lk1, lks, lkI, lkI0, freeze, freeze1, lockL, lock1, unlockL, unlock1, bindT, bindTs, fresh, ownable, wipeE, List.getElem?_cons_zero, List.getElem?_cons_succ, List.set_cons_zero, List.set_cons_succ, List.length_cons, List.length_nil, Bool.false_and, Bool.true_and, Bool.and_true, Bool.and_false, Nat.reduceAdd, Nat.reduceLT, Nat.reduceLeDiff, Option.some.injEq, reduceCtorEq, mod_i l b hb]
      exact ⟨_, Int.emod_nonneg _ (by omega), Int.emod_lt_of_pos _ hb, rfl⟩
    · rw [hr]
      simp only [bind_ok, bind_stuck, bind_ite, toO_ok, toO_exc, toO_ite, nox_ok, nox_ite, then_nx, then_rt, then_ex, then_st, then_ite, toR_rt, toR_nx, toR_ex, toR_ite, iteR_and, iteR_or, iteR_b, iteO_b, notD_b, getV0, getV1, getVs, ev_cn, ev_var, ev_tup, ev_lst, ev_dct0, ev_u, ev_b, ev_and, ev_or, ev_not, ev_chain, ev_ite, ev_sl, ev_isi, ev_call, ev_lc, evs_nil, evs_cons, itemsR_l, itemsR_t, its_seq, its_rng1, its_rng2, ev_rg, rgs_1, rgs_2, its_enum, its_zip, its_rev, enumR_l, enumR_t, revR_l, revR_t, rgD_t, rgD_l, lcC_t, lcD, ex_skip, ex_seq, ex_asg, ex_if, ex_ret, ex_retN, ex_retV, ex_expr, ex_raise, ex_for, ex_while, ex_app, ex_ins, ex_ext, ex_aug, retO_f, add_i, sub_i, fdiv_i, mod_i, eq_i, ne_i, eq_b, ne_b, lt_i, le_i, gt_i, ge_i, is_b, min_i, max_i, idx_t, idx_l, atR0, atR1, len_t, len_l, tup_l, tup_t, lst_l, lst_t, neg_i, ix_i, rev_t, rev_l, sl_t, sl_l, partR_n, partR_i, isi_none_int, isi_none_bool, isi_none_str, isi_none_tuple, isi_none_list, isi_none_dict, isi_bool_int, isi_bool_bool, isi_bool_str, isi_bool_tuple, isi_bool_list, isi_bool_dict, isi_int_int, isi_int_bool, isi_int_str, isi_int_tuple, isi_int_list, isi_int_dict, isi_str_int, isi_str_bool, isi_str_str, isi_str_tuple, isi_str_list, isi_str_dict, isi_list_int, isi_list_bool, isi_list_str, isi_list_tuple, isi_list_list, isi_list_dict, isi_tuple_int, isi_tuple_bool, isi_tuple_str, isi_tuple_tuple, isi_tuple_list, isi_tuple_dict, isi_dict_int, isi_dict_bool, isi_dict_str, isi_dict_tuple, isi_dict_list, isi_dict_dict, start_cons, start_nil1, start_nil0, Bool.not_true, Bool.not_false, decide_eq_true_eq, Bool.not_eq_true', decide_eq_false_iff_not, Bool.false_eq_true, if_false, if_true, reduceIte, List.nil_append, List.append_nil, List.cons_append, asgO_one, asgO_tup, env1_id, decide_true, lk0, lk1, lks, lkI, lkI0, freeze, freeze1, lockL, lock1, unlockL, unlock1, bindT, bindTs, fresh, ownable, wipeE, List.getElem?_cons_zero, List.getElem?_cons_succ, List.set_cons_zero, List.set_cons_succ, List.length_cons, List.length_nil, Bool.false_and, Bool.true_and, Bool.and_true, Bool.and_false, Nat.reduceAdd, Nat.reduceLT, Nat.reduceLeDiff, Option.some.injEq, reduceCtorEq]
      exact ⟨0, by omega, hb, rfl⟩
  · rw [if_neg hc]
    have m1 : ∀ x : Int, op2 .mod (.int x) (.int 1000000007) = .ok (.int (x % 1000000007)) := fun x => mod_i x _ (by decide)
    have m2 : ∀ x : Int, op2 .mod (.int x) (.int 2147483647) = .ok (.int (x % 2147483647)) := fun x => mod_i x _ (by decide)
    have m3 : ∀ x : Int, op2 .mod (.int x) (.int 2147483629) = .ok (.int (x % 2147483629)) := fun x => mod_i x _ (by decide)
    have m4 : ∀ x : Int, op2 .mul (.int 1009) (.int x) = .ok (.int (1009 * x)) := fun x => mul_l _ x (by decide) (by decide)
    have m5 : ∀ x : Int, op2 .mul (.int x) (.int 69621) = .ok (.int (x * 69621)) := fun x => mul_r x _ (by decide) (by decide)
    have m6 : ∀ x : Int, op2 .mul (.int 40503) (.int x) = .ok (.int (40503 * x)) := fun x => mul_l _ x (by decide) (by decide)
    have m7 : ∀ x : Int, op2 .mul (.int x) (.int 48271) = .ok (.int (x * 48271)) := fun x => mul_r x _ (by decide) (by decide)
    have m8 : ∀ x : Int, op2 .fdiv (.int x) (.int 32) = .ok (.int (x / 32)) := fun x => fdiv_i x _ (by decide) (by decide)
    have m9 : ∀ x : Int, op2 .mod (.int x) (.int b) = .ok (.int (x % b)) := fun x => mod_i x _ hb
    simp only [bind_ok, bind_stuck, bind_ite, toO_ok, toO_exc, toO_ite, nox_ok, nox_ite, then_nx, then_rt, then_ex, then_st, then_ite, toR_rt, toR_nx, toR_ex, toR_ite, iteR_and, iteR_or, iteR_b, iteO_b, notD_b, getV0, getV1, getVs, ev_cn, ev_var, ev_tup, ev_lst, ev_dct0, ev_u, ev_b, ev_and, ev_or, ev_not, ev_chain, ev_ite, ev_sl, ev_isi, ev_call, ev_lc, evs_nil, evs_cons, itemsR_l, itemsR_t, its_seq, its_rng1, its_rng2, ev_rg, rgs_1, rgs_2, its_enum, its_zip, its_rev, enumR_l, enumR_t, revR_l, revR_t, rgD_t, rgD_l, lcC_t, lcD, ex_skip, ex_seq, ex_asg, ex_if, ex_ret, ex_retN, ex_retV, ex_expr, ex_raise, ex_for, ex_while, ex_app, ex_ins, ex_ext, ex_aug, retO_f, add_i, sub_i, fdiv_i, mod_i, eq_i, ne_i, eq_b, ne_b, lt_i, le_i, gt_i, ge_i, is_b, min_i, max_i, idx_t, idx_l, atR0, atR1, len_t, len_l, tup_l, tup_t, lst_l, lst_t, neg_i, ix_i, rev_t, rev_l, sl_t, sl_l, partR_n, partR_i, isi_none_int, isi_none_bool, isi_none_str, isi_none_tuple, isi_none_list, isi_none_dict, isi_bool_int, isi_bool_bool, isi_bool_str, isi_bool_tuple, isi_bool_list, isi_bool_dict, isi_int_int, isi_int_bool, isi_int_str, isi_int_tuple, isi_int_list, isi_int_dict, isi_str_int, isi_str_bool, isi_str_str, isi_str_tuple, isi_str_list, isi_str_dict, isi_list_int, isi_list_bool, isi_list_str, isi_list_tuple, isi_list_list, isi_list_dict, isi_tuple_int, isi_tuple_bool, isi_tuple_str, isi_tuple_tuple, isi_tuple_list, isi_tuple_dict, isi_dict_int, isi_dict_bool, isi_dict_str, isi_dict_tuple, isi_dict_list, isi_dict_dict, start_cons, start_nil1, start_nil0, Bool.not_true, Bool.not_false, decide_eq_true_eq, Bool.not_eq_true', decide_eq_false_iff_not, Bool.false_eq_true, if_false, if_true, reduceIte, List.nil_append, List.append_nil, List.cons_append, asgO_one, asgO_tup, env1_id, decide_true, lk0, lk1, lks, lkI, lkI0, freeze, freeze1, lockL, lock1, unlockL, unlock1, bindT, bindTs, fresh, ownable, wipeE, List.getElem?_cons_zero, List.getElem?_cons_succ, List.set_cons_zero, List.set_cons_succ, List.length_cons, List.length_nil, Bool.false_and, Bool.true_and, Bool.and_true, Bool.and_false, Nat.reduceAdd, Nat.reduceLT, Nat.reduceLeDiff, Option.some.injEq, reduceCtorEq, m1, m4, m5, m2]
    have b1 : 0 ≤ (c % 1000000007 + 1009 * j + 17) * 69621 % 2147483647 := Int.emod_nonneg _ (by decide)
    have b2 : (c % 1000000007 + 1009 * j + 17) * 69621 % 2147483647 < 2147483647 := Int.emod_lt_of_pos _ (by decide)
    generalize (c % 1000000007 + 1009 * j + 17) * 69621 % 2147483647 = s at b1 b2 ⊢
    have m10 : op2 .mul (.int s) (.int s) = .ok (.int (s * s)) := mul_l s s (by omega) (by omega)
    simp only [bind_ok, bind_stuck, bind_ite, toO_ok, toO_exc, toO_ite, nox_ok, nox_ite, then_nx, then_rt, then_ex, then_st, then_ite, toR_rt, toR_nx, toR_ex, toR_ite, iteR_and, iteR_or, iteR_b, iteO_b, notD_b, getV0, getV1, getVs, ev_cn, ev_var, ev_tup, ev_lst, ev_dct0, ev_u, ev_b, ev_and, ev_or, ev_not, ev_chain, ev_ite, ev_sl, ev_isi, ev_call, ev_lc, evs_nil, evs_cons, itemsR_l, itemsR_t, its_seq, its_rng1, its_rng2, ev_rg, rgs_1, rgs_2, its_enum, its_zip, its_rev, enumR_l, enumR_t, revR_l, revR_t, rgD_t, rgD_l, lcC_t, lcD, ex_skip, ex_seq, ex_asg, ex_if, ex_ret, ex_retN, ex_retV, ex_expr, ex_raise, ex_for, ex_while, ex_app, ex_ins, ex_ext, ex_aug, retO_f, add_i, sub_i, fdiv_i, mod_i, eq_i, ne_i, eq_b, ne_b, lt_i, le_i, gt_i, ge_i, is_b, min_i, max_i, idx_t, idx_l, atR0, atR1, len_t, len_l, tup_l, tup_t, lst_l, lst_t, neg_i, ix_i, rev_t, rev_l, sl_t, sl_l, partR_n, partR_i, isi_none_int, isi_none_bool, isi_none_str, isi_none_tuple, isi_none_list, isi_none_dict, isi_bool_int, isi_bool_bool, isi_bool_str, isi_bool_tuple, isi_bool_list, isi_bool_dict, isi_int_int, isi_int_bool, isi_int_str, isi_int_tuple, isi_int_list, isi_int_dict, isi_str_int, isi_str_bool, isi_str_str, isi_str_tuple, isi_str_list, isi_str_dict, isi_list_int, isi_list_bool, isi_list_str, isi_list_tuple, isi_list_list, isi_list_dict, isi_tuple_int, isi_tuple_bool, isi_tuple_str, isi_tuple_tuple, isi_tuple_list, isi_tuple_dict, isi_dict_int, isi_dict_bool, isi_dict_str, isi_dict_tuple, isi_dict_list, isi_dict_dict, start_cons, start_nil1, start_nil0, Bool.not_true, Bool.not_false, decide_eq_true_eq, Bool.not_eq_true', decide_eq_false_iff_not, Bool.false_eq_true, if_false, if_true, reduceIte, List.nil_append, List.append_nil, List.cons_append, asgO_one, asgO_tup, env1_id, decide_true, lk0, lk1, lks, lkI, lkI0, freeze, freeze1, lockL, lock1, unlockL, unlock1, bindT, bindTs, fresh, ownable, wipeE, List.getElem?_cons_zero, List.getElem?_cons_succ, List.set_cons_zero, List.set_cons_succ, List.length_cons, List.length_nil, Bool.false_and, Bool.true_and, Bool.and_true, Bool.and_false, Nat.reduceAdd, Nat.reduceLT, Nat.reduceLeDiff, Option.some.injEq, reduceCtorEq, m10, m6, m3, m7, m2, m8, m9]
    exact ⟨_, Int.emod_nonneg _ (by omega), Int.emod_lt_of_pos _ hb, rfl⟩
end L3

set_option Elab.async false
set_option linter.all false
set_option maxRecDepth 100000
set_option maxHeartbeats 4000000
namespace L3
open PySem
def c_looks_so : FDef := ⟨2, 3, false,
    (.seq (.ifS (.or (.not (.isi (.var 0) .tuple)) (.b .eq (.var 1) (.cn (.int 0))))
    (.ret (.cn (.bool false)))
    .skip)
    (.seq (.ifS (.b .eq (.u .len (.var 0)) (.cn (.int 1)))
    (.ret (.b .eq (.var 0) (.cn (.tuple [(.str (Str.ofString "one"))]))))
    .skip)
    (.seq (.ifS (.or (.b .ne (.u .len (.var 0)) (.cn (.int 2))) (.or (.not (.isi (.b .idx (.var 0) (.cn (.int 0))) .str)) (.b .nin (.b .idx (.var 0) (.cn (.int 0))) (.tup (.cons (.cn (.str (Str.ofString "beside"))) (.cons (.cn (.str (Str.ofString "across"))) .nil))))))
    (.ret (.cn (.bool false)))
    .skip)
    (.seq (.ifS (.or (.not (.isi (.b .idx (.var 0) (.cn (.int 1))) .tuple)) (.b .lt (.u .len (.b .idx (.var 0) (.cn (.int 1)))) (.cn (.int 2))))
    (.ret (.cn (.bool false)))
    .skip)
    (.ret (.u .all (.lc [2] (.one 2) (.seq (.b .idx (.var 0) (.cn (.int 1)))) (.cn (.bool true)) (.call "looks_so" (.cons (.var 2) (.cons (.b .sub (.var 1) (.cn (.int 1))) .nil))))))))))⟩
def c_ones_in : FDef := ⟨1, 2, false,
    (.seq (.ifS (.b .eq (.u .len (.var 0)) (.cn (.int 1)))
    (.ret (.cn (.int 1)))
    .skip)
    (.ret (.u .sum (.lc [1] (.one 1) (.seq (.b .idx (.var 0) (.cn (.int 1)))) (.cn (.bool true)) (.call "ones_in" (.cons (.var 1) .nil))))))⟩
def c_is_plan : FDef := ⟨1, 1, false,
    (.ret (.and (.call "looks_so" (.cons (.var 0) (.cons (.cn (.int 24)) .nil))) (.b .le (.call "ones_in" (.cons (.var 0) .nil)) (.cn (.int 40)))))⟩
def c__law_plan_b0 : CS := (.ifS (.b .gt (.u .len (.var 3)) (.cn (.int 1)))
    (.seq (.asg (.one 5) (.b .add (.cn (.int 2)) (.call "_law_draw" (.cons (.var 0) (.cons (.b .add (.var 1) (.b .mul (.cn (.int 3)) (.var 4))) (.cons (.cn (.int 3)) .nil))))))
    (.seq (.asg (.one 6) (.call "_law_draw" (.cons (.var 0) (.cons (.b .add (.b .add (.var 1) (.b .mul (.cn (.int 3)) (.var 4))) (.cn (.int 1))) (.cons (.b .max2 (.cn (.int 1)) (.b .add (.b .sub (.u .len (.var 3)) (.var 5)) (.cn (.int 1)))) .nil)))))
    (.seq (.asg (.one 7) (.b .idx (.lst (.cons (.cn (.str (Str.ofString "beside"))) (.cons (.cn (.str (Str.ofString "across"))) .nil))) (.call "_law_draw" (.cons (.var 0) (.cons (.b .add (.b .add (.var 1) (.b .mul (.cn (.int 3)) (.var 4))) (.cn (.int 2))) (.cons (.cn (.int 2)) .nil))))))
    (.asg (.one 3) (.b .add (.b .add (.sl (.var 3) (.cn .none) (.u .ix (.var 6))) (.lst (.cons (.tup (.cons (.var 7) (.cons (.u .tupleOf (.sl (.var 3) (.u .ix (.var 6)) (.u .ix (.b .add (.var 6) (.var 5))))) .nil))) .nil))) (.sl (.var 3) (.u .ix (.b .add (.var 6) (.var 5))) (.cn .none)))))))
    .skip)
def c__law_plan : FDef := ⟨3, 8, false,
    (.seq (.asg (.one 3) (.b .rep (.lst (.cons (.tup (.cons (.cn (.str (Str.ofString "one"))) .nil)) .nil)) (.var 2)))
    (.seq (.forS (.one 4) (.rng1 (.var 2)) c__law_plan_b0)
    (.ret (.b .idx (.var 3) (.cn (.int 0))))))⟩
end L3

set_option Elab.async false
set_option linter.all false
set_option maxRecDepth 100000
set_option maxHeartbeats 4000000
namespace L3
open PySem
abbrev sOne : Str := Str.ofString "one"
abbrev sBe : Str := Str.ofString "beside"
abbrev sAc : Str := Str.ofString "across"
def oneD : D := .tuple [.str sOne]
def goodD (n : Nat) (d : D) : Prop := d.canLay0 = true ∧ d.depth ≤ n
theorem goodD.mono {m n : Nat} {d : D} (h : goodD m d) (hm : m ≤ n) : goodD n d := ⟨h.1, Nat.le_trans h.2 hm⟩
theorem goodD.shp {n : Nat} {d : D} (h : goodD n d) (hn : n ≤ 64) : shp d = true := by
  unfold L3.shp SeqAt.shaped
  rw [h.1, Bool.true_and]
  exact decide_eq_true (Nat.le_trans h.2 hn)
theorem good_all {n : Nat} : ∀ {ts : List D}, (∀ t, t ∈ ts → goodD n t) → PyData.canLayAll0 ts = true ∧ PyData.depthAll ts ≤ n
  | [], _ => ⟨rfl, Nat.zero_le _⟩
  | t :: ts, h => by
    obtain ⟨a, b⟩ := good_all fun t ht => h t (List.mem_cons_of_mem _ ht)
    obtain ⟨c, d⟩ := h t List.mem_cons_self
    refine ⟨?_, ?_⟩
    · show (t.canLay0 && PyData.canLayAll0 ts) = true
      rw [a, c]; rfl
    · show max t.depth (PyData.depthAll ts) ≤ n
      omega
theorem good_tup {n : Nat} {ts : List D} (h : ∀ t, t ∈ ts → goodD n t) : goodD (n + 1) (.tuple ts) := by
  obtain ⟨a, b⟩ := good_all h
  exact ⟨a, Nat.succ_le_succ b⟩
theorem good_lst {n : Nat} {ts : List D} (h : ∀ t, t ∈ ts → goodD n t) : goodD (n + 1) (.list ts) := by
  obtain ⟨a, b⟩ := good_all h
  exact ⟨a, Nat.succ_le_succ b⟩
theorem all_good {n : Nat} : ∀ {ts : List D}, PyData.canLayAll0 ts = true → PyData.depthAll ts ≤ n → ∀ t, t ∈ ts → goodD n t
  | [], _, _, t, h => by cases h
  | x :: ts, h1, h2, t, h => by
    have h1' : (x.canLay0 && PyData.canLayAll0 ts) = true := h1
    have h2' : max x.depth (PyData.depthAll ts) ≤ n := h2
    rw [Bool.and_eq_true] at h1'
    rcases List.mem_cons.mp h with rfl | h
    · exact ⟨h1'.1, by omega⟩
    · exact all_good h1'.2 (by omega) t h
theorem depth_mem : ∀ {ts : List D} {t : D}, t ∈ ts → t.depth ≤ PyData.depthAll ts
  | [], t, h => by cases h
  | x :: ts, t, h => by
    show t.depth ≤ max x.depth (PyData.depthAll ts)
    rcases List.mem_cons.mp h with rfl | h
    · omega
    · have := depth_mem h
      omega
theorem tup_good {n : Nat} {ts : List D} (h : goodD (n + 1) (.tuple ts)) : ∀ t, t ∈ ts → goodD n t :=
  all_good h.1 (Nat.le_of_succ_le_succ h.2)
theorem good_s (n : Nat) {s : Str} (h : PyData.canLay0 (.str s) = true) : goodD n (.str s) := ⟨h, Nat.zero_le _⟩
theorem good_1 (n : Nat) : goodD n (.str sOne) := good_s n (by decide +kernel)
theorem good_be (n : Nat) : goodD n (.str sBe) := good_s n (by decide +kernel)
theorem good_ac (n : Nat) : goodD n (.str sAc) := good_s n (by decide +kernel)
theorem good_one (n : Nat) : goodD (n + 1) oneD := good_tup fun t ht => by
  rw [List.mem_singleton] at ht; subst ht; exact good_1 n
/-- one of the two words -/
def isW (w : D) : Bool := [PyData.str sBe, .str sAc].any fun z => PyData.eqv z w
def soB : Nat → D → Bool
  | 0, _ => false
  | n + 1, .tuple [x] => PyData.eqv (.tuple [x]) oneD
  | n + 1, .tuple [w, .tuple ts] => isW w && (decide (2 ≤ ts.length) && ts.all (soB n))
  | _ + 1, _ => false
theorem eqD_t {xs ys : List D} (h1 : shp (.tuple xs) = true) (h2 : shp (.tuple ys) = true) : op2 .eq (.tuple xs) (.tuple ys) = .ok (.bool (PyData.eqv (.tuple xs) (.tuple ys))) := by
  show (if (shp (.tuple xs) && shp (.tuple ys)) = true then _ else _) = _
  rw [h1, h2]; rfl
theorem inn_t {x : D} {ys : List D} (h1 : shp x = true) (h2 : shp (.tuple ys) = true) : op2 .nin x (.tuple ys) = .ok (.bool (!ys.any fun z => PyData.eqv z x)) := by
  show notR (inD x (.tuple ys)) = _
  unfold inD
  show notR (if (shp x && shp (.tuple ys)) = true then _ else _) = _
  rw [h1, h2]; rfl
theorem inn_l {x : D} {ys : List D} (h1 : shp x = true) (h2 : shp (.list ys) = true) : op2 .nin x (.list ys) = .ok (.bool (!ys.any fun z => PyData.eqv z x)) := by
  show notR (inD x (.list ys)) = _
  unfold inD
  show notR (if (shp x && shp (.list ys)) = true then _ else _) = _
  rw [h1, h2]; rfl
theorem words_t : shp (.tuple [.str sBe, .str sAc]) = true := (good_tup (n := 0) fun t ht => by
  simp only [List.mem_cons, List.not_mem_nil, or_false] at ht
  rcases ht with rfl | rfl
  · exact good_be 0
  · exact good_ac 0).shp (by decide)
theorem words_l : shp (.list [.str sBe, .str sAc]) = true := (good_lst (n := 0) fun t ht => by
  simp only [List.mem_cons, List.not_mem_nil, or_false] at ht
  rcases ht with rfl | rfl
  · exact good_be 0
  · exact good_ac 0).shp (by decide)
theorem isW_str {w : D} (h : isiD w .str = false) : isW w = false := by
  cases w <;> first | rfl | cases h
theorem soB_3 (n : Nat) (x y z : D) (r : List D) : soB (n + 1) (.tuple (x :: y :: z :: r)) = false := by cases y <;> rfl
theorem soB_2 (n : Nat) (x y : D) (h : isiD y .tuple = false) : soB (n + 1) (.tuple [x, y]) = false := by cases y <;> first | rfl | cases h
theorem looks_so_eq {T : Tab} (h : T "looks_so" = some c_looks_so) : ∀ (n k : Nat) (d : D), goodD 64 d → callT T (k + n + 1) "looks_so" [d, .int (n : Nat)] = .ok (.bool (soB n d))
  | 0, k, d, hd => by
    rw [L3.callT_eq _ h rfl]
    cases d
    case tuple xs => simp only [bind_ok, bind_stuck, bind_ite, toO_ok, toO_exc, toO_ite, nox_ok, nox_ite, then_nx, then_rt, then_ex, then_st, then_ite, toR_rt, toR_nx, toR_ex, toR_ite, iteR_and, iteR_or, iteR_b, iteO_b, notD_b, getV0, getV1, getVs, ev_cn, ev_var, ev_tup, ev_lst, ev_dct0, ev_u, ev_b, ev_and, ev_or, ev_not, ev_chain, ev_ite, ev_sl, ev_isi, ev_call, ev_lc, evs_nil, evs_cons, itemsR_l, itemsR_t, its_seq, its_rng1, its_rng2, ev_rg, rgs_1, rgs_2, its_enum, its_zip, its_rev, enumR_l, enumR_t, revR_l, revR_t, rgD_t, rgD_l, lcC_t, lcD, ex_skip, ex_seq, ex_asg, ex_if, ex_ret, ex_retN, ex_retV, ex_expr, ex_raise, ex_for, ex_while, ex_app, ex_ins, ex_ext, ex_aug, retO_f, add_i, sub_i, fdiv_i, mod_i, eq_i, ne_i, eq_b, ne_b, lt_i, le_i, gt_i, ge_i, is_b, min_i, max_i, idx_t, idx_l, atR0, atR1, len_t, len_l, tup_l, tup_t, lst_l, lst_t, neg_i, ix_i, rev_t, rev_l, sl_t, sl_l, partR_n, partR_i, isi_none_int, isi_none_bool, isi_none_str, isi_none_tuple, isi_none_list, isi_none_dict, isi_bool_int, isi_bool_bool, isi_bool_str, isi_bool_tuple, isi_bool_list, isi_bool_dict, isi_int_int, isi_int_bool, isi_int_str, isi_int_tuple, isi_int_list, isi_int_dict, isi_str_int, isi_str_bool, isi_str_str, isi_str_tuple, isi_str_list, isi_str_dict, isi_list_int, isi_list_bool, isi_list_str, isi_list_tuple, isi_list_list, isi_list_dict, isi_tuple_int, isi_tuple_bool, isi_tuple_str, isi_tuple_tuple, isi_tuple_list, isi_tuple_dict, isi_dict_int, isi_dict_bool, isi_dict_str, isi_dict_tuple, isi_dict_list, isi_dict_dict, start_cons, start_nil1, start_nil0, Bool.not_true, Bool.not_false, decide_eq_true_eq, Bool.not_eq_true', decide_eq_false_iff_not, Bool.false_eq_true, if_false, if_true, reduceIte, c_looks_so, soB, Int.natCast_zero]
    all_goals simp only [bind_ok, bind_stuck, bind_ite, toO_ok, toO_exc, toO_ite, nox_ok, nox_ite, then_nx, then_rt, then_ex, then_st, then_ite, toR_rt, toR_nx, toR_ex, toR_ite, iteR_and, iteR_or, iteR_b, iteO_b, notD_b, getV0, getV1, getVs, ev_cn, ev_var, ev_tup, ev_lst, ev_dct0, ev_u, ev_b, ev_and, ev_or, ev_not, ev_chain, ev_ite, ev_sl, ev_isi, ev_call, ev_lc, evs_nil, evs_cons, itemsR_l, itemsR_t, its_seq, its_rng1, its_rng2, ev_rg, rgs_1, rgs_2, its_enum, its_zip, its_rev, enumR_l, enumR_t, revR_l, revR_t, rgD_t, rgD_l, lcC_t, lcD, ex_skip, ex_seq, ex_asg, ex_if, ex_ret, ex_retN, ex_retV, ex_expr, ex_raise, ex_for, ex_while, ex_app, ex_ins, ex_ext, ex_aug, retO_f, add_i, sub_i, fdiv_i, mod_i, eq_i, ne_i, eq_b, ne_b, lt_i, le_i, gt_i, ge_i, is_b, min_i, max_i, idx_t, idx_l, atR0, atR1, len_t, len_l, tup_l, tup_t, lst_l, lst_t, neg_i, ix_i, rev_t, rev_l, sl_t, sl_l, partR_n, partR_i, isi_none_int, isi_none_bool, isi_none_str, isi_none_tuple, isi_none_list, isi_none_dict, isi_bool_int, isi_bool_bool, isi_bool_str, isi_bool_tuple, isi_bool_list, isi_bool_dict, isi_int_int, isi_int_bool, isi_int_str, isi_int_tuple, isi_int_list, isi_int_dict, isi_str_int, isi_str_bool, isi_str_str, isi_str_tuple, isi_str_list, isi_str_dict, isi_list_int, isi_list_bool, isi_list_str, isi_list_tuple, isi_list_list, isi_list_dict, isi_tuple_int, isi_tuple_bool, isi_tuple_str, isi_tuple_tuple, isi_tuple_list, isi_tuple_dict, isi_dict_int, isi_dict_bool, isi_dict_str, isi_dict_tuple, isi_dict_list, isi_dict_dict, start_cons, start_nil1, start_nil0, Bool.not_true, Bool.not_false, decide_eq_true_eq, Bool.not_eq_true', decide_eq_false_iff_not, Bool.false_eq_true, if_false, if_true, reduceIte, c_looks_so, soB]
  | n + 1, k, d, hd => by
    rw [L3.callT_eq _ h rfl]
    cases d
    case tuple xs =>
      have hz : ¬ (((n + 1 : Nat) : Int) = 0) := by omega
      have hs : ((n + 1 : Nat) : Int) - 1 = (n : Int) := by omega
      match xs with
      | [] => simp only [bind_ok, bind_stuck, bind_ite, toO_ok, toO_exc, toO_ite, nox_ok, nox_ite, then_nx, then_rt, then_ex, then_st, then_ite, toR_rt, toR_nx, toR_ex, toR_ite, iteR_and, iteR_or, iteR_b, iteO_b, notD_b, getV0, getV1, getVs, ev_cn, ev_var, ev_tup, ev_lst, ev_dct0, ev_u, ev_b, ev_and, ev_or, ev_not, ev_chain, ev_ite, ev_sl, ev_isi, ev_call, ev_lc, evs_nil, evs_cons, itemsR_l, itemsR_t, its_seq, its_rng1, its_rng2, ev_rg, rgs_1, rgs_2, its_enum, its_zip, its_rev, enumR_l, enumR_t, revR_l, revR_t, rgD_t, rgD_l, lcC_t, lcD, ex_skip, ex_seq, ex_asg, ex_if, ex_ret, ex_retN, ex_retV, ex_expr, ex_raise, ex_for, ex_while, ex_app, ex_ins, ex_ext, ex_aug, retO_f, add_i, sub_i, fdiv_i, mod_i, eq_i, ne_i, eq_b, ne_b, lt_i, le_i, gt_i, ge_i, is_b, min_i, max_i, idx_t, idx_l, atR0, atR1, len_t, len_l, tup_l, tup_t, lst_l, lst_t, neg_i, ix_i, rev_t, rev_l, sl_t, sl_l, partR_n, partR_i, isi_none_int, isi_none_bool, isi_none_str, isi_none_tuple, isi_none_list, isi_none_dict, isi_bool_int, isi_bool_bool, isi_bool_str, isi_bool_tuple, isi_bool_list, isi_bool_dict, isi_int_int, isi_int_bool, isi_int_str, isi_int_tuple, isi_int_list, isi_int_dict, isi_str_int, isi_str_bool, isi_str_str, isi_str_tuple, isi_str_list, isi_str_dict, isi_list_int, isi_list_bool, isi_list_str, isi_list_tuple, isi_list_list, isi_list_dict, isi_tuple_int, isi_tuple_bool, isi_tuple_str, isi_tuple_tuple, isi_tuple_list, isi_tuple_dict, isi_dict_int, isi_dict_bool, isi_dict_str, isi_dict_tuple, isi_dict_list, isi_dict_dict, start_cons, start_nil1, start_nil0, Bool.not_true, Bool.not_false, decide_eq_true_eq, Bool.not_eq_true', decide_eq_false_iff_not, Bool.false_eq_true, if_false, if_true, reduceIte, List.nil_append, List.append_nil, List.cons_append, asgO_one, asgO_tup, env1_id, decide_true, lk0, lk1, lks, lkI, lkI0, freeze, freeze1, lockL, lock1, unlockL, unlock1, bindT, bindTs, fresh, ownable, wipeE, List.getElem?_cons_zero, List.getElem?_cons_succ, List.set_cons_zero, List.set_cons_succ, List.length_cons, List.length_nil, Bool.false_and, Bool.true_and, Bool.and_true, Bool.and_false, Nat.reduceAdd, Nat.reduceLT, Nat.reduceLeDiff, Option.some.injEq, reduceCtorEq, c_looks_so, soB, if_neg hz]; rfl
      | [x] =>
        have e1 : (((0 + 1 : Nat) : Int) = 1) := rfl
        simp only [bind_ok, bind_stuck, bind_ite, toO_ok, toO_exc, toO_ite, nox_ok, nox_ite, then_nx, then_rt, then_ex, then_st, then_ite, toR_rt, toR_nx, toR_ex, toR_ite, iteR_and, iteR_or, iteR_b, iteO_b, notD_b, getV0, getV1, getVs, ev_cn, ev_var, ev_tup, ev_lst, ev_dct0, ev_u, ev_b, ev_and, ev_or, ev_not, ev_chain, ev_ite, ev_sl, ev_isi, ev_call, ev_lc, evs_nil, evs_cons, itemsR_l, itemsR_t, its_seq, its_rng1, its_rng2, ev_rg, rgs_1, rgs_2, its_enum, its_zip, its_rev, enumR_l, enumR_t, revR_l, revR_t, rgD_t, rgD_l, lcC_t, lcD, ex_skip, ex_seq, ex_asg, ex_if, ex_ret, ex_retN, ex_retV, ex_expr, ex_raise, ex_for, ex_while, ex_app, ex_ins, ex_ext, ex_aug, retO_f, add_i, sub_i, fdiv_i, mod_i, eq_i, ne_i, eq_b, ne_b, lt_i, le_i, gt_i, ge_i, is_b, min_i, max_i, idx_t, idx_l, atR0, atR1, len_t, len_l, tup_l, tup_t, lst_l, lst_t, neg_i, ix_i, rev_t, rev_l, sl_t, sl_l, partR_n, partR_i, isi_none_int, isi_none_bool, isi_none_str, isi_none_tuple, isi_none_list, isi_none_dict, isi_bool_int, isi_bool_bool, isi_bool_str, isi_bool_tuple, isi_bool_list, isi_bool_dict, isi_int_int, isi_int_bool, isi_int_str, isi_int_tuple, isi_int_list, isi_int_dict, isi_str_int, isi_str_bool, isi_str_str, isi_str_tuple, isi_str_list, isi_str_dict, isi_list_int, isi_list_bool, isi_list_str, isi_list_tuple, isi_list_list, isi_list_dict, isi_tuple_int, isi_tuple_bool, isi_tuple_str, isi_tuple_tuple, isi_tuple_list, isi_tuple_dict, isi_dict_int, isi_dict_bool, isi_dict_str, isi_dict_tuple, isi_dict_list, isi_dict_dict, start_cons, start_nil1, start_nil0, Bool.not_true, Bool.not_false, decide_eq_true_eq, Bool.not_eq_true', decide_eq_false_iff_not, Bool.false_eq_true, if_false, if_true, reduceIte, List.nil_append, List.append_nil, List.cons_append, asgO_one, asgO_tup, env1_id, decide_true, lk0, lk1, lks, lkI, lkI0, freeze, freeze1, lockL, lock1, unlockL, unlock1, bindT, bindTs, fresh, ownable, wipeE, List.getElem?_cons_zero, List.getElem?_cons_succ, List.set_cons_zero, List.set_cons_succ, List.length_cons, List.length_nil, Bool.false_and, Bool.true_and, Bool.and_true, Bool.and_false, Nat.reduceAdd, Nat.reduceLT, Nat.reduceLeDiff, Option.some.injEq, reduceCtorEq, c_looks_so, soB, if_neg hz, eqD_t (ys := [.str sOne]) (hd.shp (by decide)) ((good_one 0).shp (by decide))]
        rfl
      | x :: y :: z :: r =>
        simp only [bind_ok, bind_stuck, bind_ite, toO_ok, toO_exc, toO_ite, nox_ok, nox_ite, then_nx, then_rt, then_ex, then_st, then_ite, toR_rt, toR_nx, toR_ex, toR_ite, iteR_and, iteR_or, iteR_b, iteO_b, notD_b, getV0, getV1, getVs, ev_cn, ev_var, ev_tup, ev_lst, ev_dct0, ev_u, ev_b, ev_and, ev_or, ev_not, ev_chain, ev_ite, ev_sl, ev_isi, ev_call, ev_lc, evs_nil, evs_cons, itemsR_l, itemsR_t, its_seq, its_rng1, its_rng2, ev_rg, rgs_1, rgs_2, its_enum, its_zip, its_rev, enumR_l, enumR_t, revR_l, revR_t, rgD_t, rgD_l, lcC_t, lcD, ex_skip, ex_seq, ex_asg, ex_if, ex_ret, ex_retN, ex_retV, ex_expr, ex_raise, ex_for, ex_while, ex_app, ex_ins, ex_ext, ex_aug, retO_f, add_i, sub_i, fdiv_i, mod_i, eq_i, ne_i, eq_b, ne_b, lt_i, le_i, gt_i, ge_i, is_b, min_i, max_i, idx_t, idx_l, atR0, atR1, len_t, len_l, tup_l, tup_t, lst_l, lst_t, neg_i, ix_i, rev_t, rev_l, sl_t, sl_l, partR_n, partR_i, isi_none_int, isi_none_bool, isi_none_str, isi_none_tuple, isi_none_list, isi_none_dict, isi_bool_int, isi_bool_bool, isi_bool_str, isi_bool_tuple, isi_bool_list, isi_bool_dict, isi_int_int, isi_int_bool, isi_int_str, isi_int_tuple, isi_int_list, isi_int_dict, isi_str_int, isi_str_bool, isi_str_str, isi_str_tuple, isi_str_list, isi_str_dict, isi_list_int, isi_list_bool, isi_list_str, isi_list_tuple, isi_list_list, isi_list_dict, isi_tuple_int, isi_tuple_bool, isi_tuple_str, isi_tuple_tuple, isi_tuple_list, isi_tuple_dict, isi_dict_int, isi_dict_bool, isi_dict_str, isi_dict_tuple, isi_dict_list, isi_dict_dict, start_cons, start_nil1, start_nil0, Bool.not_true, Bool.not_false, decide_eq_true_eq, Bool.not_eq_true', decide_eq_false_iff_not, Bool.false_eq_true, if_false, if_true, reduceIte, List.nil_append, List.append_nil, List.cons_append, asgO_one, asgO_tup, env1_id, decide_true, lk0, lk1, lks, lkI, lkI0, freeze, freeze1, lockL, lock1, unlockL, unlock1, bindT, bindTs, fresh, ownable, wipeE, List.getElem?_cons_zero, List.getElem?_cons_succ, List.set_cons_zero, List.set_cons_succ, List.length_cons, List.length_nil, Bool.false_and, Bool.true_and, Bool.and_true, Bool.and_false, Nat.reduceAdd, Nat.reduceLT, Nat.reduceLeDiff, Option.some.injEq, reduceCtorEq, c_looks_so, soB_3, if_neg hz]
        rw [if_neg (by omega), if_pos (by omega)]
      | [w, t] =>
        have hw := tup_good (n := 63) hd w List.mem_cons_self
        have ht := tup_good (n := 63) hd t (List.mem_cons_of_mem _ List.mem_cons_self)
        have e2 : ¬ ¬ (((0 + 1 + 1 : Nat) : Int) = 2) := by decide
        have e3 : ¬ (((0 + 1 + 1 : Nat) : Int) = 1) := by decide
        simp only [bind_ok, bind_stuck, bind_ite, toO_ok, toO_exc, toO_ite, nox_ok, nox_ite, then_nx, then_rt, then_ex, then_st, then_ite, toR_rt, toR_nx, toR_ex, toR_ite, iteR_and, iteR_or, iteR_b, iteO_b, notD_b, getV0, getV1, getVs, ev_cn, ev_var, ev_tup, ev_lst, ev_dct0, ev_u, ev_b, ev_and, ev_or, ev_not, ev_chain, ev_ite, ev_sl, ev_isi, ev_call, ev_lc, evs_nil, evs_cons, itemsR_l, itemsR_t, its_seq, its_rng1, its_rng2, ev_rg, rgs_1, rgs_2, its_enum, its_zip, its_rev, enumR_l, enumR_t, revR_l, revR_t, rgD_t, rgD_l, lcC_t, lcD, ex_skip, ex_seq, ex_asg, ex_if, ex_ret, ex_retN, ex_retV, ex_expr, ex_raise, ex_for, ex_while, ex_app, ex_ins, ex_ext, ex_aug, retO_f, add_i, sub_i, fdiv_i, mod_i, eq_i, ne_i, eq_b, ne_b, lt_i, le_i, gt_i, ge_i, is_b, min_i, max_i, idx_t, idx_l, atR0, atR1, len_t, len_l, tup_l, tup_t, lst_l, lst_t, neg_i, ix_i, rev_t, rev_l, sl_t, sl_l, partR_n, partR_i, isi_none_int, isi_none_bool, isi_none_str, isi_none_tuple, isi_none_list, isi_none_dict, isi_bool_int, isi_bool_bool, isi_bool_str, isi_bool_tuple, isi_bool_list, isi_bool_dict, isi_int_int, isi_int_bool, isi_int_str, isi_int_tuple, isi_int_list, isi_int_dict, isi_str_int, isi_str_bool, isi_str_str, isi_str_tuple, isi_str_list, isi_str_dict, isi_list_int, isi_list_bool, isi_list_str, isi_list_tuple, isi_list_list, isi_list_dict, isi_tuple_int, isi_tuple_bool, isi_tuple_str, isi_tuple_tuple, isi_tuple_list, isi_tuple_dict, isi_dict_int, isi_dict_bool, isi_dict_str, isi_dict_tuple, isi_dict_list, isi_dict_dict, start_cons, start_nil1, start_nil0, Bool.not_true, Bool.not_false, decide_eq_true_eq, Bool.not_eq_true', decide_eq_false_iff_not, Bool.false_eq_true, if_false, if_true, reduceIte, List.nil_append, List.append_nil, List.cons_append, asgO_one, asgO_tup, env1_id, decide_true, lk0, lk1, lks, lkI, lkI0, freeze, freeze1, lockL, lock1, unlockL, unlock1, bindT, bindTs, fresh, ownable, wipeE, List.getElem?_cons_zero, List.getElem?_cons_succ, List.set_cons_zero, List.set_cons_succ, List.length_cons, List.length_nil, Bool.false_and, Bool.true_and, Bool.and_true, Bool.and_false, Nat.reduceAdd, Nat.reduceLT, Nat.reduceLeDiff, Option.some.injEq, reduceCtorEq, c_looks_so, if_neg hz, tupR, lim, inn_t (hw.shp (by decide)) words_t, cast2, show ((2 : Int) = 1) = False from eq_false (by decide), not_true_eq_false]
        by_cases h1 : isiD w .str = false
        · rw [if_pos h1]
          cases t <;> first | rfl | skip
          show _ = R.ok (PyData.bool (isW w && _))
          rw [isW_str h1]; rfl
        rw [if_neg h1]
        by_cases h2 : isW w = false
        · have h2' : ([PyData.str sBe, PyData.str sAc].any fun z => PyData.eqv z w) = false := h2
          rw [if_pos h2']
          cases t <;> first | rfl | skip
          show _ = R.ok (PyData.bool (isW w && _))
          rw [h2]; rfl
        have h2' : ¬ ([PyData.str sBe, PyData.str sAc].any fun z => PyData.eqv z w) = false := h2
        rw [if_neg h2']
        have h2 : isW w = true := by simpa using h2
        cases t
        case tuple ts =>
          simp only [bind_ok, bind_stuck, bind_ite, toO_ok, toO_exc, toO_ite, nox_ok, nox_ite, then_nx, then_rt, then_ex, then_st, then_ite, toR_rt, toR_nx, toR_ex, toR_ite, iteR_and, iteR_or, iteR_b, iteO_b, notD_b, getV0, getV1, getVs, ev_cn, ev_var, ev_tup, ev_lst, ev_dct0, ev_u, ev_b, ev_and, ev_or, ev_not, ev_chain, ev_ite, ev_sl, ev_isi, ev_call, ev_lc, evs_nil, evs_cons, itemsR_l, itemsR_t, its_seq, its_rng1, its_rng2, ev_rg, rgs_1, rgs_2, its_enum, its_zip, its_rev, enumR_l, enumR_t, revR_l, revR_t, rgD_t, rgD_l, lcC_t, lcD, ex_skip, ex_seq, ex_asg, ex_if, ex_ret, ex_retN, ex_retV, ex_expr, ex_raise, ex_for, ex_while, ex_app, ex_ins, ex_ext, ex_aug, retO_f, add_i, sub_i, fdiv_i, mod_i, eq_i, ne_i, eq_b, ne_b, lt_i, le_i, gt_i, ge_i, is_b, min_i, max_i, idx_t, idx_l, atR0, atR1, len_t, len_l, tup_l, tup_t, lst_l, lst_t, neg_i, ix_i, rev_t, rev_l, sl_t, sl_l, partR_n, partR_i, isi_none_int, isi_none_bool, isi_none_str, isi_none_tuple, isi_none_list, isi_none_dict, isi_bool_int, isi_bool_bool, isi_bool_str, isi_bool_tuple, isi_bool_list, isi_bool_dict, isi_int_int, isi_int_bool, isi_int_str, isi_int_tuple, isi_int_list, isi_int_dict, isi_str_int, isi_str_bool, isi_str_str, isi_str_tuple, isi_str_list, isi_str_dict, isi_list_int, isi_list_bool, isi_list_str, isi_list_tuple, isi_list_list, isi_list_dict, isi_tuple_int, isi_tuple_bool, isi_tuple_str, isi_tuple_tuple, isi_tuple_list, isi_tuple_dict, isi_dict_int, isi_dict_bool, isi_dict_str, isi_dict_tuple, isi_dict_list, isi_dict_dict, start_cons, start_nil1, start_nil0, Bool.not_true, Bool.not_false, decide_eq_true_eq, Bool.not_eq_true', decide_eq_false_iff_not, Bool.false_eq_true, if_false, if_true, reduceIte, List.nil_append, List.append_nil, List.cons_append, asgO_one, asgO_tup, env1_id, decide_true, lk0, lk1, lks, lkI, lkI0, freeze, freeze1, lockL, lock1, unlockL, unlock1, bindT, bindTs, fresh, ownable, wipeE, List.getElem?_cons_zero, List.getElem?_cons_succ, List.set_cons_zero, List.set_cons_succ, List.length_cons, List.length_nil, Bool.false_and, Bool.true_and, Bool.and_true, Bool.and_false, Nat.reduceAdd, Nat.reduceLT, Nat.reduceLeDiff, Option.some.injEq, reduceCtorEq]
          have hso : soB (n + 1) (.tuple [w, .tuple ts]) = (decide (2 ≤ ts.length) && ts.all (soB n)) := by
            show (isW w && _) = _
            rw [h2]; rfl
          rw [hso]
          by_cases h3 : (ts.length : Int) < 2
          · rw [if_pos h3]
            have : decide (2 ≤ ts.length) = false := by simp; omega
            rw [this]; rfl
          rw [if_neg h3]
          have h3' : decide (2 ≤ ts.length) = true := by simp; omega
          rw [h3', Bool.true_and]
          rw [lcLoop_map (fun d => .bool (soB n d))]
          · simp only [bind_ok, bind_stuck, bind_ite, toO_ok, toO_exc, toO_ite, nox_ok, nox_ite, then_nx, then_rt, then_ex, then_st, then_ite, toR_rt, toR_nx, toR_ex, toR_ite, iteR_and, iteR_or, iteR_b, iteO_b, notD_b, getV0, getV1, getVs, ev_cn, ev_var, ev_tup, ev_lst, ev_dct0, ev_u, ev_b, ev_and, ev_or, ev_not, ev_chain, ev_ite, ev_sl, ev_isi, ev_call, ev_lc, evs_nil, evs_cons, itemsR_l, itemsR_t, its_seq, its_rng1, its_rng2, ev_rg, rgs_1, rgs_2, its_enum, its_zip, its_rev, enumR_l, enumR_t, revR_l, revR_t, rgD_t, rgD_l, lcC_t, lcD, ex_skip, ex_seq, ex_asg, ex_if, ex_ret, ex_retN, ex_retV, ex_expr, ex_raise, ex_for, ex_while, ex_app, ex_ins, ex_ext, ex_aug, retO_f, add_i, sub_i, fdiv_i, mod_i, eq_i, ne_i, eq_b, ne_b, lt_i, le_i, gt_i, ge_i, is_b, min_i, max_i, idx_t, idx_l, atR0, atR1, len_t, len_l, tup_l, tup_t, lst_l, lst_t, neg_i, ix_i, rev_t, rev_l, sl_t, sl_l, partR_n, partR_i, isi_none_int, isi_none_bool, isi_none_str, isi_none_tuple, isi_none_list, isi_none_dict, isi_bool_int, isi_bool_bool, isi_bool_str, isi_bool_tuple, isi_bool_list, isi_bool_dict, isi_int_int, isi_int_bool, isi_int_str, isi_int_tuple, isi_int_list, isi_int_dict, isi_str_int, isi_str_bool, isi_str_str, isi_str_tuple, isi_str_list, isi_str_dict, isi_list_int, isi_list_bool, isi_list_str, isi_list_tuple, isi_list_list, isi_list_dict, isi_tuple_int, isi_tuple_bool, isi_tuple_str, isi_tuple_tuple, isi_tuple_list, isi_tuple_dict, isi_dict_int, isi_dict_bool, isi_dict_str, isi_dict_tuple, isi_dict_list, isi_dict_dict, start_cons, start_nil1, start_nil0, Bool.not_true, Bool.not_false, decide_eq_true_eq, Bool.not_eq_true', decide_eq_false_iff_not, Bool.false_eq_true, if_false, if_true, reduceIte, all_m]
          · intro d hd
            rw [hs, show k + (n + 1) = k + n + 1 from rfl, looks_so_eq h n k d ((tup_good (n := 62) ht d hd).mono (by decide))]
            simp only [bind_ok, bind_stuck, bind_ite, toO_ok, toO_exc, toO_ite, nox_ok, nox_ite, then_nx, then_rt, then_ex, then_st, then_ite, toR_rt, toR_nx, toR_ex, toR_ite, iteR_and, iteR_or, iteR_b, iteO_b, notD_b, getV0, getV1, getVs, ev_cn, ev_var, ev_tup, ev_lst, ev_dct0, ev_u, ev_b, ev_and, ev_or, ev_not, ev_chain, ev_ite, ev_sl, ev_isi, ev_call, ev_lc, evs_nil, evs_cons, itemsR_l, itemsR_t, its_seq, its_rng1, its_rng2, ev_rg, rgs_1, rgs_2, its_enum, its_zip, its_rev, enumR_l, enumR_t, revR_l, revR_t, rgD_t, rgD_l, lcC_t, lcD, ex_skip, ex_seq, ex_asg, ex_if, ex_ret, ex_retN, ex_retV, ex_expr, ex_raise, ex_for, ex_while, ex_app, ex_ins, ex_ext, ex_aug, retO_f, add_i, sub_i, fdiv_i, mod_i, eq_i, ne_i, eq_b, ne_b, lt_i, le_i, gt_i, ge_i, is_b, min_i, max_i, idx_t, idx_l, atR0, atR1, len_t, len_l, tup_l, tup_t, lst_l, lst_t, neg_i, ix_i, rev_t, rev_l, sl_t, sl_l, partR_n, partR_i, isi_none_int, isi_none_bool, isi_none_str, isi_none_tuple, isi_none_list, isi_none_dict, isi_bool_int, isi_bool_bool, isi_bool_str, isi_bool_tuple, isi_bool_list, isi_bool_dict, isi_int_int, isi_int_bool, isi_int_str, isi_int_tuple, isi_int_list, isi_int_dict, isi_str_int, isi_str_bool, isi_str_str, isi_str_tuple, isi_str_list, isi_str_dict, isi_list_int, isi_list_bool, isi_list_str, isi_list_tuple, isi_list_list, isi_list_dict, isi_tuple_int, isi_tuple_bool, isi_tuple_str, isi_tuple_tuple, isi_tuple_list, isi_tuple_dict, isi_dict_int, isi_dict_bool, isi_dict_str, isi_dict_tuple, isi_dict_list, isi_dict_dict, start_cons, start_nil1, start_nil0, Bool.not_true, Bool.not_false, decide_eq_true_eq, Bool.not_eq_true', decide_eq_false_iff_not, Bool.false_eq_true, if_false, if_true, reduceIte]
        all_goals simp only [bind_ok, bind_stuck, bind_ite, toO_ok, toO_exc, toO_ite, nox_ok, nox_ite, then_nx, then_rt, then_ex, then_st, then_ite, toR_rt, toR_nx, toR_ex, toR_ite, iteR_and, iteR_or, iteR_b, iteO_b, notD_b, getV0, getV1, getVs, ev_cn, ev_var, ev_tup, ev_lst, ev_dct0, ev_u, ev_b, ev_and, ev_or, ev_not, ev_chain, ev_ite, ev_sl, ev_isi, ev_call, ev_lc, evs_nil, evs_cons, itemsR_l, itemsR_t, its_seq, its_rng1, its_rng2, ev_rg, rgs_1, rgs_2, its_enum, its_zip, its_rev, enumR_l, enumR_t, revR_l, revR_t, rgD_t, rgD_l, lcC_t, lcD, ex_skip, ex_seq, ex_asg, ex_if, ex_ret, ex_retN, ex_retV, ex_expr, ex_raise, ex_for, ex_while, ex_app, ex_ins, ex_ext, ex_aug, retO_f, add_i, sub_i, fdiv_i, mod_i, eq_i, ne_i, eq_b, ne_b, lt_i, le_i, gt_i, ge_i, is_b, min_i, max_i, idx_t, idx_l, atR0, atR1, len_t, len_l, tup_l, tup_t, lst_l, lst_t, neg_i, ix_i, rev_t, rev_l, sl_t, sl_l, partR_n, partR_i, isi_none_int, isi_none_bool, isi_none_str, isi_none_tuple, isi_none_list, isi_none_dict, isi_bool_int, isi_bool_bool, isi_bool_str, isi_bool_tuple, isi_bool_list, isi_bool_dict, isi_int_int, isi_int_bool, isi_int_str, isi_int_tuple, isi_int_list, isi_int_dict, isi_str_int, isi_str_bool, isi_str_str, isi_str_tuple, isi_str_list, isi_str_dict, isi_list_int, isi_list_bool, isi_list_str, isi_list_tuple, isi_list_list, isi_list_dict, isi_tuple_int, isi_tuple_bool, isi_tuple_str, isi_tuple_tuple, isi_tuple_list, isi_tuple_dict, isi_dict_int, isi_dict_bool, isi_dict_str, isi_dict_tuple, isi_dict_list, isi_dict_dict, start_cons, start_nil1, start_nil0, Bool.not_true, Bool.not_false, decide_eq_true_eq, Bool.not_eq_true', decide_eq_false_iff_not, Bool.false_eq_true, if_false, if_true, reduceIte, soB]
    all_goals simp only [bind_ok, bind_stuck, bind_ite, toO_ok, toO_exc, toO_ite, nox_ok, nox_ite, then_nx, then_rt, then_ex, then_st, then_ite, toR_rt, toR_nx, toR_ex, toR_ite, iteR_and, iteR_or, iteR_b, iteO_b, notD_b, getV0, getV1, getVs, ev_cn, ev_var, ev_tup, ev_lst, ev_dct0, ev_u, ev_b, ev_and, ev_or, ev_not, ev_chain, ev_ite, ev_sl, ev_isi, ev_call, ev_lc, evs_nil, evs_cons, itemsR_l, itemsR_t, its_seq, its_rng1, its_rng2, ev_rg, rgs_1, rgs_2, its_enum, its_zip, its_rev, enumR_l, enumR_t, revR_l, revR_t, rgD_t, rgD_l, lcC_t, lcD, ex_skip, ex_seq, ex_asg, ex_if, ex_ret, ex_retN, ex_retV, ex_expr, ex_raise, ex_for, ex_while, ex_app, ex_ins, ex_ext, ex_aug, retO_f, add_i, sub_i, fdiv_i, mod_i, eq_i, ne_i, eq_b, ne_b, lt_i, le_i, gt_i, ge_i, is_b, min_i, max_i, idx_t, idx_l, atR0, atR1, len_t, len_l, tup_l, tup_t, lst_l, lst_t, neg_i, ix_i, rev_t, rev_l, sl_t, sl_l, partR_n, partR_i, isi_none_int, isi_none_bool, isi_none_str, isi_none_tuple, isi_none_list, isi_none_dict, isi_bool_int, isi_bool_bool, isi_bool_str, isi_bool_tuple, isi_bool_list, isi_bool_dict, isi_int_int, isi_int_bool, isi_int_str, isi_int_tuple, isi_int_list, isi_int_dict, isi_str_int, isi_str_bool, isi_str_str, isi_str_tuple, isi_str_list, isi_str_dict, isi_list_int, isi_list_bool, isi_list_str, isi_list_tuple, isi_list_list, isi_list_dict, isi_tuple_int, isi_tuple_bool, isi_tuple_str, isi_tuple_tuple, isi_tuple_list, isi_tuple_dict, isi_dict_int, isi_dict_bool, isi_dict_str, isi_dict_tuple, isi_dict_list, isi_dict_dict, start_cons, start_nil1, start_nil0, Bool.not_true, Bool.not_false, decide_eq_true_eq, Bool.not_eq_true', decide_eq_false_iff_not, Bool.false_eq_true, if_false, if_true, reduceIte, c_looks_so, soB]
def onesN : Nat → D → Int
  | 0, _ => 0
  | _ + 1, .tuple [_] => 1
  | n + 1, .tuple [_, .tuple ts] => (ts.map (onesN n)).sum
  | _ + 1, _ => 0
theorem sum_f (f : D → Int) (ds : List D) : op1 .sum (.list (ds.map fun d => .int (f d))) = .ok (.int (ds.map f).sum) := by
  have : (ds.map fun d => PyData.int (f d)) = (ds.map f).map .int := by rw [List.map_map]; rfl
  rw [this, sum_m]
theorem so_shape {n : Nat} {d : D} (h : soB n d = true) : (∃ x, d = .tuple [x]) ∨ ∃ w ts m, d = .tuple [w, .tuple ts] ∧ n = m + 1 ∧ 2 ≤ ts.length ∧ ∀ t, t ∈ ts → soB m t = true := by
  cases n with
  | zero => cases d <;> cases h
  | succ m =>
    cases d <;> first | (cases h; done) | skip
    rename_i xs
    match xs with
    | [] => cases h
    | [x] => exact .inl ⟨x, rfl⟩
    | [w, t] =>
      cases t <;> first | (cases h; done) | skip
      rename_i ts
      have h' : (isW w && (decide (2 ≤ ts.length) && ts.all (soB m))) = true := h
      rw [Bool.and_eq_true, Bool.and_eq_true] at h'
      exact .inr ⟨w, ts, m, rfl, rfl, of_decide_eq_true h'.2.1, List.all_eq_true.mp h'.2.2⟩
    | x :: y :: z :: r => rw [soB_3] at h; cases h
theorem ones_in_eq {T : Tab} (h : T "ones_in" = some c_ones_in) : ∀ (n k : Nat) (d : D), soB n d = true → callT T (k + n) "ones_in" [d] = .ok (.int (onesN n d))
  | 0, k, d, hd => by cases d <;> cases hd
  | n + 1, k, d, hd => by
    show callT T (k + n + 1) _ _ = _
    rw [L3.callT_eq _ h rfl]
    rcases so_shape hd with ⟨x, rfl⟩ | ⟨w, ts, m, rfl, em, hl, hs⟩
    · simp only [bind_ok, bind_stuck, bind_ite, toO_ok, toO_exc, toO_ite, nox_ok, nox_ite, then_nx, then_rt, then_ex, then_st, then_ite, toR_rt, toR_nx, toR_ex, toR_ite, iteR_and, iteR_or, iteR_b, iteO_b, notD_b, getV0, getV1, getVs, ev_cn, ev_var, ev_tup, ev_lst, ev_dct0, ev_u, ev_b, ev_and, ev_or, ev_not, ev_chain, ev_ite, ev_sl, ev_isi, ev_call, ev_lc, evs_nil, evs_cons, itemsR_l, itemsR_t, its_seq, its_rng1, its_rng2, ev_rg, rgs_1, rgs_2, its_enum, its_zip, its_rev, enumR_l, enumR_t, revR_l, revR_t, rgD_t, rgD_l, lcC_t, lcD, ex_skip, ex_seq, ex_asg, ex_if, ex_ret, ex_retN, ex_retV, ex_expr, ex_raise, ex_for, ex_while, ex_app, ex_ins, ex_ext, ex_aug, retO_f, add_i, sub_i, fdiv_i, mod_i, eq_i, ne_i, eq_b, ne_b, lt_i, le_i, gt_i, ge_i, is_b, min_i, max_i, idx_t, idx_l, atR0, atR1, len_t, len_l, tup_l, tup_t, lst_l, lst_t, neg_i, ix_i, rev_t, rev_l, sl_t, sl_l, partR_n, partR_i, isi_none_int, isi_none_bool, isi_none_str, isi_none_tuple, isi_none_list, isi_none_dict, isi_bool_int, isi_bool_bool, isi_bool_str, isi_bool_tuple, isi_bool_list, isi_bool_dict, isi_int_int, isi_int_bool, isi_int_str, isi_int_tuple, isi_int_list, isi_int_dict, isi_str_int, isi_str_bool, isi_str_str, isi_str_tuple, isi_str_list, isi_str_dict, isi_list_int, isi_list_bool, isi_list_str, isi_list_tuple, isi_list_list, isi_list_dict, isi_tuple_int, isi_tuple_bool, isi_tuple_str, isi_tuple_tuple, isi_tuple_list, isi_tuple_dict, isi_dict_int, isi_dict_bool, isi_dict_str, isi_dict_tuple, isi_dict_list, isi_dict_dict, start_cons, start_nil1, start_nil0, Bool.not_true, Bool.not_false, decide_eq_true_eq, Bool.not_eq_true', decide_eq_false_iff_not, Bool.false_eq_true, if_false, if_true, reduceIte, List.nil_append, List.append_nil, List.cons_append, asgO_one, asgO_tup, env1_id, decide_true, lk0, lk1, lks, lkI, lkI0, freeze, freeze1, lockL, lock1, unlockL, unlock1, bindT, bindTs, fresh, ownable, wipeE, List.getElem?_cons_zero, List.getElem?_cons_succ, List.set_cons_zero, List.set_cons_succ, List.length_cons, List.length_nil, Bool.false_and, Bool.true_and, Bool.and_true, Bool.and_false, Nat.reduceAdd, Nat.reduceLT, Nat.reduceLeDiff, Option.some.injEq, reduceCtorEq, c_ones_in, onesN, cast1]
    · cases em
      simp only [bind_ok, bind_stuck, bind_ite, toO_ok, toO_exc, toO_ite, nox_ok, nox_ite, then_nx, then_rt, then_ex, then_st, then_ite, toR_rt, toR_nx, toR_ex, toR_ite, iteR_and, iteR_or, iteR_b, iteO_b, notD_b, getV0, getV1, getVs, ev_cn, ev_var, ev_tup, ev_lst, ev_dct0, ev_u, ev_b, ev_and, ev_or, ev_not, ev_chain, ev_ite, ev_sl, ev_isi, ev_call, ev_lc, evs_nil, evs_cons, itemsR_l, itemsR_t, its_seq, its_rng1, its_rng2, ev_rg, rgs_1, rgs_2, its_enum, its_zip, its_rev, enumR_l, enumR_t, revR_l, revR_t, rgD_t, rgD_l, lcC_t, lcD, ex_skip, ex_seq, ex_asg, ex_if, ex_ret, ex_retN, ex_retV, ex_expr, ex_raise, ex_for, ex_while, ex_app, ex_ins, ex_ext, ex_aug, retO_f, add_i, sub_i, fdiv_i, mod_i, eq_i, ne_i, eq_b, ne_b, lt_i, le_i, gt_i, ge_i, is_b, min_i, max_i, idx_t, idx_l, atR0, atR1, len_t, len_l, tup_l, tup_t, lst_l, lst_t, neg_i, ix_i, rev_t, rev_l, sl_t, sl_l, partR_n, partR_i, isi_none_int, isi_none_bool, isi_none_str, isi_none_tuple, isi_none_list, isi_none_dict, isi_bool_int, isi_bool_bool, isi_bool_str, isi_bool_tuple, isi_bool_list, isi_bool_dict, isi_int_int, isi_int_bool, isi_int_str, isi_int_tuple, isi_int_list, isi_int_dict, isi_str_int, isi_str_bool, isi_str_str, isi_str_tuple, isi_str_list, isi_str_dict, isi_list_int, isi_list_bool, isi_list_str, isi_list_tuple, isi_list_list, isi_list_dict, isi_tuple_int, isi_tuple_bool, isi_tuple_str, isi_tuple_tuple, isi_tuple_list, isi_tuple_dict, isi_dict_int, isi_dict_bool, isi_dict_str, isi_dict_tuple, isi_dict_list, isi_dict_dict, start_cons, start_nil1, start_nil0, Bool.not_true, Bool.not_false, decide_eq_true_eq, Bool.not_eq_true', decide_eq_false_iff_not, Bool.false_eq_true, if_false, if_true, reduceIte, List.nil_append, List.append_nil, List.cons_append, asgO_one, asgO_tup, env1_id, decide_true, lk0, lk1, lks, lkI, lkI0, freeze, freeze1, lockL, lock1, unlockL, unlock1, bindT, bindTs, fresh, ownable, wipeE, List.getElem?_cons_zero, List.getElem?_cons_succ, List.set_cons_zero, List.set_cons_succ, List.length_cons, List.length_nil, Bool.false_and, Bool.true_and, Bool.and_true, Bool.and_false, Nat.reduceAdd, Nat.reduceLT, Nat.reduceLeDiff, Option.some.injEq, reduceCtorEq, c_ones_in, onesN, cast2, show ((2 : Int) = 1) = False from eq_false (by decide)]
      rw [lcLoop_map (fun d => .int (onesN n d))]
      · simp only [bind_ok, bind_stuck, bind_ite, toO_ok, toO_exc, toO_ite, nox_ok, nox_ite, then_nx, then_rt, then_ex, then_st, then_ite, toR_rt, toR_nx, toR_ex, toR_ite, iteR_and, iteR_or, iteR_b, iteO_b, notD_b, getV0, getV1, getVs, ev_cn, ev_var, ev_tup, ev_lst, ev_dct0, ev_u, ev_b, ev_and, ev_or, ev_not, ev_chain, ev_ite, ev_sl, ev_isi, ev_call, ev_lc, evs_nil, evs_cons, itemsR_l, itemsR_t, its_seq, its_rng1, its_rng2, ev_rg, rgs_1, rgs_2, its_enum, its_zip, its_rev, enumR_l, enumR_t, revR_l, revR_t, rgD_t, rgD_l, lcC_t, lcD, ex_skip, ex_seq, ex_asg, ex_if, ex_ret, ex_retN, ex_retV, ex_expr, ex_raise, ex_for, ex_while, ex_app, ex_ins, ex_ext, ex_aug, retO_f, add_i, sub_i, fdiv_i, mod_i, eq_i, ne_i, eq_b, ne_b, lt_i, le_i, gt_i, ge_i, is_b, min_i, max_i, idx_t, idx_l, atR0, atR1, len_t, len_l, tup_l, tup_t, lst_l, lst_t, neg_i, ix_i, rev_t, rev_l, sl_t, sl_l, partR_n, partR_i, isi_none_int, isi_none_bool, isi_none_str, isi_none_tuple, isi_none_list, isi_none_dict, isi_bool_int, isi_bool_bool, isi_bool_str, isi_bool_tuple, isi_bool_list, isi_bool_dict, isi_int_int, isi_int_bool, isi_int_str, isi_int_tuple, isi_int_list, isi_int_dict, isi_str_int, isi_str_bool, isi_str_str, isi_str_tuple, isi_str_list, isi_str_dict, isi_list_int, isi_list_bool, isi_list_str, isi_list_tuple, isi_list_list, isi_list_dict, isi_tuple_int, isi_tuple_bool, isi_tuple_str, isi_tuple_tuple, isi_tuple_list, isi_tuple_dict, isi_dict_int, isi_dict_bool, isi_dict_str, isi_dict_tuple, isi_dict_list, isi_dict_dict, start_cons, start_nil1, start_nil0, Bool.not_true, Bool.not_false, decide_eq_true_eq, Bool.not_eq_true', decide_eq_false_iff_not, Bool.false_eq_true, if_false, if_true, reduceIte, sum_f]
      · intro d hd
        rw [ones_in_eq h n k d (hs d hd)]
        simp only [bind_ok, bind_stuck, bind_ite, toO_ok, toO_exc, toO_ite, nox_ok, nox_ite, then_nx, then_rt, then_ex, then_st, then_ite, toR_rt, toR_nx, toR_ex, toR_ite, iteR_and, iteR_or, iteR_b, iteO_b, notD_b, getV0, getV1, getVs, ev_cn, ev_var, ev_tup, ev_lst, ev_dct0, ev_u, ev_b, ev_and, ev_or, ev_not, ev_chain, ev_ite, ev_sl, ev_isi, ev_call, ev_lc, evs_nil, evs_cons, itemsR_l, itemsR_t, its_seq, its_rng1, its_rng2, ev_rg, rgs_1, rgs_2, its_enum, its_zip, its_rev, enumR_l, enumR_t, revR_l, revR_t, rgD_t, rgD_l, lcC_t, lcD, ex_skip, ex_seq, ex_asg, ex_if, ex_ret, ex_retN, ex_retV, ex_expr, ex_raise, ex_for, ex_while, ex_app, ex_ins, ex_ext, ex_aug, retO_f, add_i, sub_i, fdiv_i, mod_i, eq_i, ne_i, eq_b, ne_b, lt_i, le_i, gt_i, ge_i, is_b, min_i, max_i, idx_t, idx_l, atR0, atR1, len_t, len_l, tup_l, tup_t, lst_l, lst_t, neg_i, ix_i, rev_t, rev_l, sl_t, sl_l, partR_n, partR_i, isi_none_int, isi_none_bool, isi_none_str, isi_none_tuple, isi_none_list, isi_none_dict, isi_bool_int, isi_bool_bool, isi_bool_str, isi_bool_tuple, isi_bool_list, isi_bool_dict, isi_int_int, isi_int_bool, isi_int_str, isi_int_tuple, isi_int_list, isi_int_dict, isi_str_int, isi_str_bool, isi_str_str, isi_str_tuple, isi_str_list, isi_str_dict, isi_list_int, isi_list_bool, isi_list_str, isi_list_tuple, isi_list_list, isi_list_dict, isi_tuple_int, isi_tuple_bool, isi_tuple_str, isi_tuple_tuple, isi_tuple_list, isi_tuple_dict, isi_dict_int, isi_dict_bool, isi_dict_str, isi_dict_tuple, isi_dict_list, isi_dict_dict, start_cons, start_nil1, start_nil0, Bool.not_true, Bool.not_false, decide_eq_true_eq, Bool.not_eq_true', decide_eq_false_iff_not, Bool.false_eq_true, if_false, if_true, reduceIte]
theorem is_plan_eq {T : Tab} (h1 : T "looks_so" = some c_looks_so) (h2 : T "ones_in" = some c_ones_in) (h3 : T "is_plan" = some c_is_plan) (k : Nat) (d : D) (hd : goodD 64 d) : callT T (k + 26) "is_plan" [d] = .ok (.bool (soB 24 d && decide (onesN 24 d ≤ 40))) := by
  show callT T (k + 25 + 1) _ _ = _
  rw [L3.callT_eq _ h3 rfl]
  have e := looks_so_eq h1 24 k d hd
  have e' : callT T (k + 25) "looks_so" [d, .int 24] = .ok (.bool (soB 24 d)) := e
  simp only [bind_ok, bind_stuck, bind_ite, toO_ok, toO_exc, toO_ite, nox_ok, nox_ite, then_nx, then_rt, then_ex, then_st, then_ite, toR_rt, toR_nx, toR_ex, toR_ite, iteR_and, iteR_or, iteR_b, iteO_b, notD_b, getV0, getV1, getVs, ev_cn, ev_var, ev_tup, ev_lst, ev_dct0, ev_u, ev_b, ev_and, ev_or, ev_not, ev_chain, ev_ite, ev_sl, ev_isi, ev_call, ev_lc, evs_nil, evs_cons, itemsR_l, itemsR_t, its_seq, its_rng1, its_rng2, ev_rg, rgs_1, rgs_2, its_enum, its_zip, its_rev, enumR_l, enumR_t, revR_l, revR_t, rgD_t, rgD_l, lcC_t, lcD, ex_skip, ex_seq, ex_asg, ex_if, ex_ret, ex_retN, ex_retV, ex_expr, ex_raise, ex_for, ex_while, ex_app, ex_ins, ex_ext, ex_aug, retO_f, add_i, sub_i, fdiv_i, mod_i, eq_i, ne_i, eq_b, ne_b, lt_i, le_i, gt_i, ge_i, is_b, min_i, max_i, idx_t, idx_l, atR0, atR1, len_t, len_l, tup_l, tup_t, lst_l, lst_t, neg_i, ix_i, rev_t, rev_l, sl_t, sl_l, partR_n, partR_i, isi_none_int, isi_none_bool, isi_none_str, isi_none_tuple, isi_none_list, isi_none_dict, isi_bool_int, isi_bool_bool, isi_bool_str, isi_bool_tuple, isi_bool_list, isi_bool_dict, isi_int_int, isi_int_bool, isi_int_str, isi_int_tuple, isi_int_list, isi_int_dict, isi_str_int, isi_str_bool, isi_str_str, isi_str_tuple, isi_str_list, isi_str_dict, isi_list_int, isi_list_bool, isi_list_str, isi_list_tuple, isi_list_list, isi_list_dict, isi_tuple_int, isi_tuple_bool, isi_tuple_str, isi_tuple_tuple, isi_tuple_list, isi_tuple_dict, isi_dict_int, isi_dict_bool, isi_dict_str, isi_dict_tuple, isi_dict_list, isi_dict_dict, start_cons, start_nil1, start_nil0, Bool.not_true, Bool.not_false, decide_eq_true_eq, Bool.not_eq_true', decide_eq_false_iff_not, Bool.false_eq_true, if_false, if_true, reduceIte, List.nil_append, List.append_nil, List.cons_append, asgO_one, asgO_tup, env1_id, decide_true, lk0, lk1, lks, lkI, lkI0, freeze, freeze1, lockL, lock1, unlockL, unlock1, bindT, bindTs, fresh, ownable, wipeE, List.getElem?_cons_zero, List.getElem?_cons_succ, List.set_cons_zero, List.set_cons_succ, List.length_cons, List.length_nil, Bool.false_and, Bool.true_and, Bool.and_true, Bool.and_false, Nat.reduceAdd, Nat.reduceLT, Nat.reduceLeDiff, Option.some.injEq, reduceCtorEq, c_is_plan, e']
  by_cases hb : soB 24 d = true
  · rw [if_pos hb, hb]
    have e2 := ones_in_eq h2 24 (k + 1) d hb
    have e2' : callT T (k + 25) "ones_in" [d] = .ok (.int (onesN 24 d)) := by
      have : k + 25 = k + 1 + 24 := by omega
      rw [this]; exact e2
    simp only [bind_ok, bind_stuck, bind_ite, toO_ok, toO_exc, toO_ite, nox_ok, nox_ite, then_nx, then_rt, then_ex, then_st, then_ite, toR_rt, toR_nx, toR_ex, toR_ite, iteR_and, iteR_or, iteR_b, iteO_b, notD_b, getV0, getV1, getVs, ev_cn, ev_var, ev_tup, ev_lst, ev_dct0, ev_u, ev_b, ev_and, ev_or, ev_not, ev_chain, ev_ite, ev_sl, ev_isi, ev_call, ev_lc, evs_nil, evs_cons, itemsR_l, itemsR_t, its_seq, its_rng1, its_rng2, ev_rg, rgs_1, rgs_2, its_enum, its_zip, its_rev, enumR_l, enumR_t, revR_l, revR_t, rgD_t, rgD_l, lcC_t, lcD, ex_skip, ex_seq, ex_asg, ex_if, ex_ret, ex_retN, ex_retV, ex_expr, ex_raise, ex_for, ex_while, ex_app, ex_ins, ex_ext, ex_aug, retO_f, add_i, sub_i, fdiv_i, mod_i, eq_i, ne_i, eq_b, ne_b, lt_i, le_i, gt_i, ge_i, is_b, min_i, max_i, idx_t, idx_l, atR0, atR1, len_t, len_l, tup_l, tup_t, lst_l, lst_t, neg_i, ix_i, rev_t, rev_l, sl_t, sl_l, partR_n, partR_i, isi_none_int, isi_none_bool, isi_none_str, isi_none_tuple, isi_none_list, isi_none_dict, isi_bool_int, isi_bool_bool, isi_bool_str, isi_bool_tuple, isi_bool_list, isi_bool_dict, isi_int_int, isi_int_bool, isi_int_str, isi_int_tuple, isi_int_list, isi_int_dict, isi_str_int, isi_str_bool, isi_str_str, isi_str_tuple, isi_str_list, isi_str_dict, isi_list_int, isi_list_bool, isi_list_str, isi_list_tuple, isi_list_list, isi_list_dict, isi_tuple_int, isi_tuple_bool, isi_tuple_str, isi_tuple_tuple, isi_tuple_list, isi_tuple_dict, isi_dict_int, isi_dict_bool, isi_dict_str, isi_dict_tuple, isi_dict_list, isi_dict_dict, start_cons, start_nil1, start_nil0, Bool.not_true, Bool.not_false, decide_eq_true_eq, Bool.not_eq_true', decide_eq_false_iff_not, Bool.false_eq_true, if_false, if_true, reduceIte, List.nil_append, List.append_nil, List.cons_append, asgO_one, asgO_tup, env1_id, decide_true, lk0, lk1, lks, lkI, lkI0, freeze, freeze1, lockL, lock1, unlockL, unlock1, bindT, bindTs, fresh, ownable, wipeE, List.getElem?_cons_zero, List.getElem?_cons_succ, List.set_cons_zero, List.set_cons_succ, List.length_cons, List.length_nil, Bool.false_and, Bool.true_and, Bool.and_true, Bool.and_false, Nat.reduceAdd, Nat.reduceLT, Nat.reduceLeDiff, Option.some.injEq, reduceCtorEq, e2', Bool.true_and]
  · rw [if_neg hb]
    have : soB 24 d = false := by simpa using hb
    rw [this]; rfl
end L3

set_option Elab.async false
set_option linter.all false
set_option maxRecDepth 100000
set_option maxHeartbeats 4000000
/-! drawn plans, their ones and ties -/
namespace L3
open PySem
def nodeD (ac : Bool) (ts : List D) : D := .tuple [.str (if ac then sAc else sBe), .tuple ts]
/-- a plan of at most so many within one another -/
def PN : Nat → D → Prop
  | 0, _ => False
  | n + 1, d => d = oneD ∨ ∃ ac ts, d = nodeD ac ts ∧ 2 ≤ ts.length ∧ ∀ t, t ∈ ts → PN n t
theorem PN.one (n : Nat) : PN (n + 1) oneD := .inl rfl
theorem PN.up : ∀ {n : Nat} {d : D}, PN n d → PN (n + 1) d
  | 0, d, h => h.elim
  | n + 1, d, h => h.imp id fun ⟨s, ts, a, b, f⟩ => ⟨s, ts, a, b, fun t ht => (f t ht).up⟩
theorem PN.mono {m n : Nat} {d : D} (h : PN m d) (hm : m ≤ n) : PN n d := by
  induction hm with
  | refl => exact h
  | step _ ih => exact ih.up
theorem PN.good : ∀ {n : Nat} {d : D}, PN n d → goodD (2 * n) d
  | 0, d, h => h.elim
  | n + 1, d, h => by
    rcases h with rfl | ⟨ac, ts, rfl, _, hp⟩
    · exact (good_one 0).mono (by omega)
    · refine good_tup (n := 2 * n + 1) fun t ht => ?_
      simp only [List.mem_cons, List.not_mem_nil, or_false] at ht
      rcases ht with rfl | rfl
      · cases ac
        · exact good_be _
        · exact good_ac _
      · exact good_tup fun t ht => (hp t ht).good
theorem isW_node (ac : Bool) : isW (.str (if ac then sAc else sBe)) = true := by cases ac <;> rfl
theorem PN.so : ∀ {n : Nat} {d : D}, PN n d → soB n d = true
  | 0, d, h => h.elim
  | n + 1, d, h => by
    rcases h with rfl | ⟨ac, ts, rfl, hl, hp⟩
    · rfl
    · show (isW _ && (decide (2 ≤ ts.length) && ts.all (soB n))) = true
      rw [isW_node, decide_eq_true hl, List.all_eq_true.mpr fun t ht => (hp t ht).so]
      rfl
/-- its ones -/
def cntN : Nat → D → Nat
  | 0, _ => 0
  | _ + 1, .tuple [_] => 1
  | n + 1, .tuple [_, .tuple ts] => (ts.map (cntN n)).sum
  | _ + 1, _ => 0
theorem cnt_ones : ∀ {n : Nat} {d : D}, PN n d → onesN n d = (cntN n d : Nat)
  | 0, d, h => h.elim
  | n + 1, d, h => by
    rcases h with rfl | ⟨ac, ts, rfl, hl, hp⟩
    · rfl
    · show (ts.map (onesN n)).sum = (((ts.map (cntN n)).sum : Nat) : Int)
      clear hl
      induction ts with
      | nil => rfl
      | cons t ts ih =>
        rw [List.map_cons, List.map_cons, List.sum_cons, List.sum_cons, ih fun t ht => hp t (List.mem_cons_of_mem _ ht), cnt_ones (hp t List.mem_cons_self)]
        omega
theorem cnt_up : ∀ {m n : Nat} {d : D}, PN m d → m ≤ n → cntN n d = cntN m d
  | 0, _, d, h, _ => h.elim
  | m + 1, 0, d, h, hm => absurd hm (Nat.not_succ_le_zero _)
  | m + 1, n + 1, d, h, hm => by
    rcases h with rfl | ⟨ac, ts, rfl, hl, hp⟩
    · rfl
    · show (ts.map (cntN n)).sum = (ts.map (cntN m)).sum
      congr 1
      exact List.map_congr_left fun t ht => cnt_up (hp t ht) (Nat.le_of_succ_le_succ hm)
theorem cnt_pos : ∀ {n : Nat} {d : D}, PN n d → 1 ≤ cntN n d
  | 0, d, h => h.elim
  | n + 1, d, h => by
    rcases h with rfl | ⟨ac, ts, rfl, hl, hp⟩
    · exact Nat.le_refl _
    · show 1 ≤ (ts.map (cntN n)).sum
      cases ts with
      | nil => simp at hl
      | cons t ts =>
        rw [List.map_cons, List.sum_cons]
        have := cnt_pos (hp t List.mem_cons_self)
        omega
/-! ### its ties -/
def shP (m : Nat) (p : Nat × Nat) : Nat × Nat := (m + p.1, m + p.2)
def crossL (m w : Nat) : List (Nat × Nat) := (List.range m).flatMap fun p => (List.range w).map fun o => (p, m + o)
def stepW (c : D → Nat) (ti : D → List (Nat × Nat)) (ac : Bool) (s : Nat × List (Nat × Nat)) (t : D) : Nat × List (Nat × Nat) :=
  (s.1 + c t, s.2 ++ (ti t).map (shP s.1) ++ if ac then crossL s.1 (c t) else [])
def isAc (w : D) : Bool := match w with | .str s => decide (s = sAc) | _ => false
def tiesN : Nat → D → List (Nat × Nat)
  | 0, _ => []
  | n + 1, .tuple [w, .tuple ts] => (ts.foldl (stepW (cntN n) (tiesN n) (isAc w)) (0, [])).2
  | _ + 1, _ => []
theorem fold_cnt (c : D → Nat) (ti : D → List (Nat × Nat)) (ac : Bool) : ∀ (ts : List D) (s : Nat × List (Nat × Nat)), (ts.foldl (stepW c ti ac) s).1 = s.1 + (ts.map c).sum
  | [], s => by simp
  | t :: ts, s => by
    rw [List.foldl_cons, fold_cnt c ti ac ts, List.map_cons, List.sum_cons]
    show s.1 + c t + _ = _
    omega
theorem cross_len (m w : Nat) : (crossL m w).length = m * w := by
  unfold crossL
  rw [List.length_flatMap]
  simp only [List.length_map, List.length_range]
  rw [List.map_const', List.sum_replicate_nat, List.length_range]
theorem fold_len (c : D → Nat) (ti : D → List (Nat × Nat)) (ac : Bool) (hc : ∀ t, (ti t).length ≤ c t * c t) : ∀ (ts : List D) (s : Nat × List (Nat × Nat)), s.2.length ≤ s.1 * s.1 → (ts.foldl (stepW c ti ac) s).2.length ≤ (ts.foldl (stepW c ti ac) s).1 * (ts.foldl (stepW c ti ac) s).1
  | [], s, h => h
  | t :: ts, s, h => by
    rw [List.foldl_cons]
    refine fold_len c ti ac hc ts _ ?_
    show (s.2 ++ (ti t).map (shP s.1) ++ if ac then crossL s.1 (c t) else []).length ≤ (s.1 + c t) * (s.1 + c t)
    have h2 := hc t
    have e : (s.1 + c t) * (s.1 + c t) = s.1 * s.1 + c t * c t + 2 * (s.1 * c t) := by
      rw [Nat.add_mul, Nat.mul_add, Nat.mul_add, Nat.mul_comm (c t) s.1]; omega
    rw [e, List.length_append, List.length_append, List.length_map]
    cases ac
    · simp only [Bool.false_eq_true, if_false, List.length_nil]; omega
    · rw [if_pos rfl, cross_len]; omega
theorem ties_len : ∀ (n : Nat) (d : D), (tiesN n d).length ≤ cntN n d * cntN n d
  | 0, d => by cases d <;> simp [tiesN]
  | n + 1, d => by
    by_cases h : ∃ w ts, d = .tuple [w, .tuple ts]
    · obtain ⟨w, ts, rfl⟩ := h
      have := fold_len (cntN n) (tiesN n) (isAc w) (fun t => ties_len n t) ts (0, []) (Nat.le_refl _)
      rw [fold_cnt] at this
      simpa [tiesN, cntN] using this
    · have : tiesN (n + 1) d = [] := by
        unfold tiesN
        split
        · contradiction
        · rename_i h2 _; exact absurd ⟨_, _, rfl⟩ h
        · rfl
      rw [this]; exact Nat.zero_le _
theorem cut_mem {xs : List D} {l h : Option Int} {t : D} (ht : t ∈ cutD xs l h) : t ∈ xs := by
  unfold cutD at ht
  exact List.mem_of_mem_drop (List.mem_of_mem_take ht)
theorem cut_ne {xs : List D} {a b : Int} (h0 : 0 ≤ a) (h1 : a < xs.length) (h2 : a < b) : cutD xs (some a) (some b) ≠ [] := by
  obtain ⟨i, rfl⟩ := Int.eq_ofNat_of_zero_le h0
  obtain ⟨j, rfl⟩ := Int.eq_ofNat_of_zero_le (show 0 ≤ b by omega)
  intro h
  have : (cutD xs (some (i : Int)) (some (j : Int))).length = 0 := by rw [h]; rfl
  unfold cutD at this
  rw [HT.sIx_nat, HT.sIx_nat, List.length_take, List.length_drop] at this
  omega
theorem rep_l {xs : List D} {k : Int} (h0 : 0 ≤ k) (h1 : k ≤ 100000) (h2 : xs.length ≤ 100) : op2 .rep (.list xs) (.int k) = .ok (.list (List.replicate k.toNat xs).flatten) := by
  refine if_pos ⟨by omega, by omega, ?_⟩
  have : xs.length * k.toNat ≤ 100 * 100000 := Nat.mul_le_mul h2 (by omega)
  have hl : lim = 16777216 := rfl
  omega
theorem words_at {r : Int} (h0 : 0 ≤ r) (h1 : r < 2) : ∃ s, PyData.canLay0 (.str s) = true ∧ atR [.str sBe, .str sAc] r = .ok (.str s) := by
  obtain ⟨d, ⟨s, hs, rfl⟩, e⟩ := atR_of (xs := [.str sBe, .str sAc]) (i := r) (fun d => ∃ s, PyData.canLay0 (.str s) = true ∧ d = .str s) h0 (by simpa using h1) (fun d hd => by
    simp only [List.mem_cons, List.not_mem_nil, or_false] at hd
    rcases hd with rfl | rfl
    · exact ⟨_, (good_be 0).1, rfl⟩
    · exact ⟨_, (good_ac 0).1, rfl⟩)
  exact ⟨s, hs, e⟩
end L3

set_option Elab.async false
set_option linter.all false
set_option maxRecDepth 100000
set_option maxHeartbeats 4000000
namespace L3
open PySem
def c_words : List (String × Str) := [("NoPlan", Str.ofString "plan")]
def c_need_plan : FDef := ⟨1, 1, false,
    (.ifS (.not (.call "is_plan" (.cons (.var 0) .nil)))
    (.raise "NoPlan")
    .skip)⟩
def c_ties_of_b0 : CS := (.ext 2 (.lc [8] (.one 8) (.seq (.var 6)) (.cn (.bool true)) (.tup (.cons (.var 7) (.cons (.var 8) .nil)))))
def c_ties_of_b1 : CS := (.seq (.asg (.one 6) (.rg false (.rng2 (.var 4) (.b .add (.var 4) (.call "ones_in" (.cons (.var 5) .nil))))))
    (.seq (.ext 2 (.call "ties_of" (.cons (.var 5) (.cons (.var 4) .nil))))
    (.seq (.ifS (.b .eq (.b .idx (.var 0) (.cn (.int 0))) (.cn (.str (Str.ofString "across"))))
    (.forS (.one 7) (.seq (.var 3)) c_ties_of_b0)
    .skip)
    (.seq (.ext 3 (.var 6))
    (.asg (.one 4) (.b .add (.var 4) (.u .len (.var 6))))))))
def c_ties_of : FDef := ⟨2, 9, true,
    (.seq (.ifS (.b .eq (.u .len (.var 0)) (.cn (.int 1)))
    (.ret (.lst .nil))
    .skip)
    (.seq (.asg (.one 2) (.lst .nil))
    (.seq (.asg (.one 3) (.lst .nil))
    (.seq (.asg (.one 4) (.var 1))
    (.seq (.forS (.one 5) (.seq (.b .idx (.var 0) (.cn (.int 1)))) c_ties_of_b1)
    (.retV 2))))))⟩
def c_plan_web : FDef := ⟨1, 1, false,
    (.seq (.exprS (.call "need_plan" (.cons (.var 0) .nil)))
    (.ret (.tup (.cons (.call "ones_in" (.cons (.var 0) .nil)) (.cons (.u .tupleOf (.u .sorted (.call "ties_of" (.cons (.var 0) (.cons (.cn (.int 0)) .nil))))) .nil)))))⟩
def c__law_web_of_b0 : CS := (.ext 2 (.lc [9] (.one 9) (.rng1 (.var 4)) (.cn (.bool true)) (.tup (.cons (.var 6) (.cons (.b .add (.var 1) (.var 9)) .nil)))))
def c__law_web_of_b1 : CS := (.seq (.asg (.tup [4, 5]) (.call "_law_web_of" (.cons (.var 3) .nil)))
    (.seq (.ext 2 (.lc [7, 8] (.tup [7, 8]) (.seq (.var 5)) (.cn (.bool true)) (.tup (.cons (.b .add (.var 1) (.var 7)) (.cons (.b .add (.var 1) (.var 8)) .nil)))))
    (.seq (.ifS (.b .eq (.b .idx (.var 0) (.cn (.int 0))) (.cn (.str (Str.ofString "across"))))
    (.forS (.one 6) (.rng1 (.var 1)) c__law_web_of_b0)
    .skip)
    (.asg (.one 1) (.b .add (.var 1) (.var 4))))))
def c__law_web_of : FDef := ⟨1, 10, false,
    (.seq (.ifS (.b .eq (.var 0) (.tup (.cons (.cn (.str (Str.ofString "one"))) .nil)))
    (.ret (.tup (.cons (.cn (.int 1)) (.cons (.lst .nil) .nil))))
    .skip)
    (.seq (.asg (.one 1) (.cn (.int 0)))
    (.seq (.asg (.one 2) (.lst .nil))
    (.seq (.forS (.one 3) (.seq (.b .idx (.var 0) (.cn (.int 1)))) c__law_web_of_b1)
    (.ret (.tup (.cons (.var 1) (.cons (.var 2) .nil))))))))⟩
def c__law_plan_web : FDef := ⟨1, 3, false,
    (.seq (.asg (.tup [1, 2]) (.call "_law_web_of" (.cons (.var 0) .nil)))
    (.ret (.tup (.cons (.var 1) (.cons (.u .tupleOf (.u .sorted (.var 2))) .nil)))))⟩
def c_law_b0 : CS := (.seq (.asg (.one 6) (.call "plan_web" (.cons (.var 5) .nil)))
    (.ifS (.or (.not (.isi (.var 6) .tuple)) (.or (.b .ne (.var 6) (.call "_law_plan_web" (.cons (.var 5) .nil))) (.not (.isi (.b .idx (.var 6) (.cn (.int 1))) .tuple))))
    (.ret (.cn (.bool false)))
    .skip))
def c_law_b1 : CS := (.seq (.asg (.one 2) (.call "_law_cell_at" (.cons (.var 0) (.cons (.var 1) .nil))))
    (.seq (.asg (.one 3) (.call "_law_plan" (.cons (.var 2) (.cons (.cn (.int 5000)) (.cons (.b .add (.cn (.int 1)) (.call "_law_draw" (.cons (.var 2) (.cons (.cn (.int 0)) (.cons (.cn (.int 20)) .nil))))) .nil)))))
    (.seq (.asg (.one 4) (.call "_law_plan" (.cons (.var 2) (.cons (.cn (.int 6000)) (.cons (.b .add (.cn (.int 1)) (.call "_law_draw" (.cons (.var 2) (.cons (.cn (.int 1)) (.cons (.cn (.int 20)) .nil))))) .nil)))))
    (.seq (.forS (.one 5) (.seq (.lst (.cons (.var 3) (.cons (.var 4) (.cons (.tup (.cons (.cn (.str (Str.ofString "across"))) (.cons (.tup (.cons (.var 3) (.cons (.var 4) .nil))) .nil))) (.cons (.tup (.cons (.cn (.str (Str.ofString "beside"))) (.cons (.tup (.cons (.var 4) (.cons (.var 3) .nil))) .nil))) .nil)))))) c_law_b0)
    (.seq (.asg (.one 7) (.lst (.cons (.cn .none) (.cons (.tup .nil) (.cons (.tup (.cons (.cn (.str (Str.ofString "two"))) .nil)) (.cons (.lst (.cons (.cn (.str (Str.ofString "one"))) .nil)) (.cons (.tup (.cons (.cn (.str (Str.ofString "across"))) (.cons (.tup (.cons (.var 3) .nil)) .nil))) (.cons (.tup (.cons (.cn (.str (Str.ofString "beside"))) (.cons (.lst (.cons (.var 3) (.cons (.var 4) .nil))) .nil))) (.cons (.tup (.cons (.var 3) (.cons (.var 4) .nil))) (.cons (.cn (.int 0)) (.cons (.cn (.str (Str.ofString "one"))) .nil)))))))))))
    (.seq (.asg (.one 7) (.b .add (.var 7) (.lst (.cons (.tup (.cons (.cn (.str (Str.ofString "across"))) (.cons (.b .rep (.tup (.cons (.tup (.cons (.cn (.str (Str.ofString "one"))) .nil)) .nil)) (.cn (.int 41))) .nil))) (.cons (.tup (.cons (.cn (.str (Str.ofString "beside"))) (.cons (.tup (.cons (.var 3) (.cons (.cn .none) .nil))) .nil))) (.cons (.tup (.cons (.cn (.str (Str.ofString "one"))) (.cons (.tup (.cons (.var 3) (.cons (.var 4) .nil))) .nil))) (.cons .dct0 .nil)))))))
    (.seq (.asg (.one 8) (.b .idx (.var 7) (.call "_law_draw" (.cons (.var 2) (.cons (.cn (.int 8000)) (.cons (.cn (.int 13)) .nil))))))
    (.ifR (.cmp true (.ref c_words (.call "plan_web" (.cons (.var 8) .nil))) (.pl (.cn (.str (Str.ofString "plan")))))
    (.ret (.cn (.bool false)))
    .skip))))))))
def c_law : FDef := ⟨1, 9, false,
    (.seq (.forS (.one 1) (.rng1 (.b .max2 (.cn (.int 1)) (.b .min2 (.u .len (.var 0)) (.cn (.int 6))))) c_law_b1)
    (.ret (.b .eq (.call "plan_web" (.cons (.tup (.cons (.cn (.str (Str.ofString "one"))) .nil)) .nil)) (.tup (.cons (.cn (.int 1)) (.cons (.tup .nil) .nil))))))⟩
end L3

set_option Elab.async false
set_option linter.all false
set_option maxRecDepth 100000
set_option maxHeartbeats 4000000
/-! both walks tell the same ties -/
namespace L3
open PySem
def tieD (f : Nat) (p : Nat × Nat) : D := .tuple [.int ((f + p.1 : Nat) : Int), .int ((f + p.2 : Nat) : Int)]
theorem tie_sh (f m : Nat) (l : List (Nat × Nat)) : (l.map (shP m)).map (tieD f) = l.map (tieD (f + m)) := by
  rw [List.map_map]
  refine List.map_congr_left fun p _ => ?_
  show tieD f (m + p.1, m + p.2) = _
  unfold tieD
  simp only [Nat.add_assoc]
theorem isAc_node (ac : Bool) : isAc (.str (if ac then sAc else sBe)) = ac := by cases ac <;> rfl
theorem eq_ac (ac : Bool) : op2 .eq (.str (if ac then sAc else sBe)) (.str sAc) = .ok (.bool ac) := by cases ac <;> rfl
theorem cross_succ (m w i : Nat) : ((List.range (i + 1)).flatMap fun p => (List.range w).map fun o => (p, m + o)) = ((List.range i).flatMap fun p => (List.range w).map fun o => (p, m + o)) ++ (List.range w).map fun o => (i, m + o) := by
  rw [List.range_succ, List.flatMap_append]
  simp
theorem part_len (m w i : Nat) : ((List.range i).flatMap fun p => (List.range w).map fun o => (p, m + o)).length = i * w := by
  rw [List.length_flatMap]
  simp only [List.length_map, List.length_range]
  rw [List.map_const', List.sum_replicate_nat, List.length_range]
theorem rng_app (f m w : Nat) : rngD (f : Int) m ++ rngD ((f + m : Nat) : Int) w = rngD (f : Int) (m + w) := by
  unfold rngD
  rw [List.range_add, List.map_append, List.map_map]
  congr 1
  refine List.map_congr_left fun k _ => ?_
  show PyData.int _ = PyData.int _
  congr 1
  show ((f + m : Nat) : Int) + (k : Int) = (f : Int) + ((m + k : Nat) : Int)
  omega
section
variable {T : Tab}
/-- the inner loop -/
theorem ties_inner (F : FT) (d t : D) (f m w : Nat) (hm : m ≤ 1000) (hw : w ≤ 1000) (base : List D) (hb : base.length ≤ 3000000) (at_ : D) (o7 : Option (D × Fl)) :
    ∃ o7', forL (turn F true (.one 7) c_ties_of_b0) (rngD (f : Int) m) [some (d, .fro), some (.int (f : Nat), .fro), some (.list base, .own), some (.list (rngD (f : Int) m), .lock), some (at_, .fro), some (t, .fro), some (.list (rngD ((f + m : Nat) : Int) w), .own), o7, none] =
      .nx [some (d, .fro), some (.int (f : Nat), .fro), some (.list (base ++ (crossL m w).map (tieD f)), .own), some (.list (rngD (f : Int) m), .lock), some (at_, .fro), some (t, .fro), some (.list (rngD ((f + m : Nat) : Int) w), .own), o7', none] := by
  obtain ⟨e, he, o7', rfl⟩ := forL_nx (f := turn F true (.one 7) c_ties_of_b0) (fun i e => ∃ o7, e = [some (d, .fro), some (.int (f : Nat), .fro), some (.list (base ++ ((List.range i).flatMap fun p => (List.range w).map fun o => (p, m + o)).map (tieD f)), .own), some (.list (rngD (f : Int) m), .lock), some (at_, .fro), some (t, .fro), some (.list (rngD ((f + m : Nat) : Int) w), .own), o7, none])
    (ds := rngD (f : Int) m) (env := [some (d, .fro), some (.int (f : Nat), .fro), some (.list base, .own), some (.list (rngD (f : Int) m), .lock), some (at_, .fro), some (t, .fro), some (.list (rngD ((f + m : Nat) : Int) w), .own), o7, none])
    ⟨o7, by simp⟩ (by
      rintro i x e hd ⟨o7, rfl⟩
      have hin : i < m := by
        have := (List.getElem?_eq_some_iff.mp hd).1
        rwa [rngD_len] at this
      have hd' : x = .int ((f : Int) + (i : Int)) := by
        unfold rngD at hd
        rw [List.getElem?_map, List.getElem?_range hin] at hd
        exact (Option.some.inj hd).symm
      subst hd'
      unfold turn
      have hlc : ∀ env' : Env, env' = [some (d, .fro), some (.int (f : Nat), .fro), some (.list (base ++ ((List.range i).flatMap fun p => (List.range w).map fun o => (p, m + o)).map (tieD f)), .own), some (.list (rngD (f : Int) m), .lock), some (at_, .fro), some (t, .fro), some (.list (rngD ((f + m : Nat) : Int) w), .own), some (.int ((f : Int) + (i : Int)), .fro), none] →
          ev F (.lc [8] (.one 8) (.seq (.var 6)) (.cn (.bool true)) (.tup (.cons (.var 7) (.cons (.var 8) .nil)))) env' = .ok (.list (((List.range w).map fun o => (i, m + o)).map (tieD f))) := fun env' e' => by
        subst e'
        simp only [bind_ok, bind_stuck, bind_ite, toO_ok, toO_exc, toO_ite, nox_ok, nox_ite, then_nx, then_rt, then_ex, then_st, then_ite, toR_rt, toR_nx, toR_ex, toR_ite, iteR_and, iteR_or, iteR_b, iteO_b, notD_b, getV0, getV1, getVs, ev_cn, ev_var, ev_tup, ev_lst, ev_dct0, ev_u, ev_b, ev_and, ev_or, ev_not, ev_chain, ev_ite, ev_sl, ev_isi, ev_call, ev_lc, evs_nil, evs_cons, itemsR_l, itemsR_t, its_seq, its_rng1, its_rng2, ev_rg, rgs_1, rgs_2, its_enum, its_zip, its_rev, enumR_l, enumR_t, revR_l, revR_t, rgD_t, rgD_l, lcC_t, lcD, ex_skip, ex_seq, ex_asg, ex_if, ex_ret, ex_retN, ex_retV, ex_expr, ex_raise, ex_for, ex_while, ex_app, ex_ins, ex_ext, ex_aug, retO_f, add_i, sub_i, fdiv_i, mod_i, eq_i, ne_i, eq_b, ne_b, lt_i, le_i, gt_i, ge_i, is_b, min_i, max_i, idx_t, idx_l, atR0, atR1, len_t, len_l, tup_l, tup_t, lst_l, lst_t, neg_i, ix_i, rev_t, rev_l, sl_t, sl_l, partR_n, partR_i, isi_none_int, isi_none_bool, isi_none_str, isi_none_tuple, isi_none_list, isi_none_dict, isi_bool_int, isi_bool_bool, isi_bool_str, isi_bool_tuple, isi_bool_list, isi_bool_dict, isi_int_int, isi_int_bool, isi_int_str, isi_int_tuple, isi_int_list, isi_int_dict, isi_str_int, isi_str_bool, isi_str_str, isi_str_tuple, isi_str_list, isi_str_dict, isi_list_int, isi_list_bool, isi_list_str, isi_list_tuple, isi_list_list, isi_list_dict, isi_tuple_int, isi_tuple_bool, isi_tuple_str, isi_tuple_tuple, isi_tuple_list, isi_tuple_dict, isi_dict_int, isi_dict_bool, isi_dict_str, isi_dict_tuple, isi_dict_list, isi_dict_dict, start_cons, start_nil1, start_nil0, Bool.not_true, Bool.not_false, decide_eq_true_eq, Bool.not_eq_true', decide_eq_false_iff_not, Bool.false_eq_true, if_false, if_true, reduceIte, List.nil_append, List.append_nil, List.cons_append, asgO_one, asgO_tup, env1_id, decide_true, lk0, lk1, lks, lkI, lkI0, freeze, freeze1, lockL, lock1, unlockL, unlock1, bindT, bindTs, fresh, ownable, wipeE, List.getElem?_cons_zero, List.getElem?_cons_succ, List.set_cons_zero, List.set_cons_succ, List.length_cons, List.length_nil, Bool.false_and, Bool.true_and, Bool.and_true, Bool.and_false, Nat.reduceAdd, Nat.reduceLT, Nat.reduceLeDiff, Option.some.injEq, reduceCtorEq]
        unfold rngD
        rw [lcLoop_map2 (fun k : Nat => PyData.tuple [.int ((f : Int) + (i : Int)), .int (((f + m : Nat) : Int) + (k : Int))]) (fun k _ => by
          simp only [bind_ok, bind_stuck, bind_ite, toO_ok, toO_exc, toO_ite, nox_ok, nox_ite, then_nx, then_rt, then_ex, then_st, then_ite, toR_rt, toR_nx, toR_ex, toR_ite, iteR_and, iteR_or, iteR_b, iteO_b, notD_b, getV0, getV1, getVs, ev_cn, ev_var, ev_tup, ev_lst, ev_dct0, ev_u, ev_b, ev_and, ev_or, ev_not, ev_chain, ev_ite, ev_sl, ev_isi, ev_call, ev_lc, evs_nil, evs_cons, itemsR_l, itemsR_t, its_seq, its_rng1, its_rng2, ev_rg, rgs_1, rgs_2, its_enum, its_zip, its_rev, enumR_l, enumR_t, revR_l, revR_t, rgD_t, rgD_l, lcC_t, lcD, ex_skip, ex_seq, ex_asg, ex_if, ex_ret, ex_retN, ex_retV, ex_expr, ex_raise, ex_for, ex_while, ex_app, ex_ins, ex_ext, ex_aug, retO_f, add_i, sub_i, fdiv_i, mod_i, eq_i, ne_i, eq_b, ne_b, lt_i, le_i, gt_i, ge_i, is_b, min_i, max_i, idx_t, idx_l, atR0, atR1, len_t, len_l, tup_l, tup_t, lst_l, lst_t, neg_i, ix_i, rev_t, rev_l, sl_t, sl_l, partR_n, partR_i, isi_none_int, isi_none_bool, isi_none_str, isi_none_tuple, isi_none_list, isi_none_dict, isi_bool_int, isi_bool_bool, isi_bool_str, isi_bool_tuple, isi_bool_list, isi_bool_dict, isi_int_int, isi_int_bool, isi_int_str, isi_int_tuple, isi_int_list, isi_int_dict, isi_str_int, isi_str_bool, isi_str_str, isi_str_tuple, isi_str_list, isi_str_dict, isi_list_int, isi_list_bool, isi_list_str, isi_list_tuple, isi_list_list, isi_list_dict, isi_tuple_int, isi_tuple_bool, isi_tuple_str, isi_tuple_tuple, isi_tuple_list, isi_tuple_dict, isi_dict_int, isi_dict_bool, isi_dict_str, isi_dict_tuple, isi_dict_list, isi_dict_dict, start_cons, start_nil1, start_nil0, Bool.not_true, Bool.not_false, decide_eq_true_eq, Bool.not_eq_true', decide_eq_false_iff_not, Bool.false_eq_true, if_false, if_true, reduceIte, List.nil_append, List.append_nil, List.cons_append, asgO_one, asgO_tup, env1_id, decide_true, lk0, lk1, lks, lkI, lkI0, freeze, freeze1, lockL, lock1, unlockL, unlock1, bindT, bindTs, fresh, ownable, wipeE, List.getElem?_cons_zero, List.getElem?_cons_succ, List.set_cons_zero, List.set_cons_succ, List.length_cons, List.length_nil, Bool.false_and, Bool.true_and, Bool.and_true, Bool.and_false, Nat.reduceAdd, Nat.reduceLT, Nat.reduceLeDiff, Option.some.injEq, reduceCtorEq, tupR, lim])]
        simp only [bind_ok, bind_stuck, bind_ite, toO_ok, toO_exc, toO_ite, nox_ok, nox_ite, then_nx, then_rt, then_ex, then_st, then_ite, toR_rt, toR_nx, toR_ex, toR_ite, iteR_and, iteR_or, iteR_b, iteO_b, notD_b, getV0, getV1, getVs, ev_cn, ev_var, ev_tup, ev_lst, ev_dct0, ev_u, ev_b, ev_and, ev_or, ev_not, ev_chain, ev_ite, ev_sl, ev_isi, ev_call, ev_lc, evs_nil, evs_cons, itemsR_l, itemsR_t, its_seq, its_rng1, its_rng2, ev_rg, rgs_1, rgs_2, its_enum, its_zip, its_rev, enumR_l, enumR_t, revR_l, revR_t, rgD_t, rgD_l, lcC_t, lcD, ex_skip, ex_seq, ex_asg, ex_if, ex_ret, ex_retN, ex_retV, ex_expr, ex_raise, ex_for, ex_while, ex_app, ex_ins, ex_ext, ex_aug, retO_f, add_i, sub_i, fdiv_i, mod_i, eq_i, ne_i, eq_b, ne_b, lt_i, le_i, gt_i, ge_i, is_b, min_i, max_i, idx_t, idx_l, atR0, atR1, len_t, len_l, tup_l, tup_t, lst_l, lst_t, neg_i, ix_i, rev_t, rev_l, sl_t, sl_l, partR_n, partR_i, isi_none_int, isi_none_bool, isi_none_str, isi_none_tuple, isi_none_list, isi_none_dict, isi_bool_int, isi_bool_bool, isi_bool_str, isi_bool_tuple, isi_bool_list, isi_bool_dict, isi_int_int, isi_int_bool, isi_int_str, isi_int_tuple, isi_int_list, isi_int_dict, isi_str_int, isi_str_bool, isi_str_str, isi_str_tuple, isi_str_list, isi_str_dict, isi_list_int, isi_list_bool, isi_list_str, isi_list_tuple, isi_list_list, isi_list_dict, isi_tuple_int, isi_tuple_bool, isi_tuple_str, isi_tuple_tuple, isi_tuple_list, isi_tuple_dict, isi_dict_int, isi_dict_bool, isi_dict_str, isi_dict_tuple, isi_dict_list, isi_dict_dict, start_cons, start_nil1, start_nil0, Bool.not_true, Bool.not_false, decide_eq_true_eq, Bool.not_eq_true', decide_eq_false_iff_not, Bool.false_eq_true, if_false, if_true, reduceIte, List.nil_append, List.append_nil, List.cons_append, asgO_one, asgO_tup, env1_id, decide_true, lk0, lk1, lks, lkI, lkI0, freeze, freeze1, lockL, lock1, unlockL, unlock1, bindT, bindTs, fresh, ownable, wipeE, List.getElem?_cons_zero, List.getElem?_cons_succ, List.set_cons_zero, List.set_cons_succ, List.length_cons, List.length_nil, Bool.false_and, Bool.true_and, Bool.and_true, Bool.and_false, Nat.reduceAdd, Nat.reduceLT, Nat.reduceLeDiff, Option.some.injEq, reduceCtorEq]
        rw [List.map_map]
        congr 2
        refine List.map_congr_left fun k _ => ?_
        show PyData.tuple [.int ((f : Int) + (i : Int)), .int (((f + m : Nat) : Int) + (k : Int))] = PyData.tuple [.int ((f + i : Nat) : Int), .int ((f + (m + k) : Nat) : Int)]
        have e1 : (f : Int) + (i : Int) = ((f + i : Nat) : Int) := by omega
        have e2 : ((f + m : Nat) : Int) + (k : Int) = ((f + (m + k) : Nat) : Int) := by omega
        rw [e1, e2]
      have hl : base.length + (((List.range i).flatMap fun p => (List.range w).map fun o => (p, m + o)).map (tieD f)).length + (((List.range w).map fun o => (i, m + o)).map (tieD f)).length ≤ lim := by
        rw [List.length_map, part_len, List.length_map, List.length_map, List.length_range]
        have : i * w ≤ 1000 * 1000 := Nat.mul_le_mul (by omega) hw
        have hlim : lim = 16777216 := rfl
        omega
      refine ⟨_, ?_, some (.int ((f : Int) + (i : Int)), .fro), rfl⟩
      simp only [bind_ok, bind_stuck, bind_ite, toO_ok, toO_exc, toO_ite, nox_ok, nox_ite, then_nx, then_rt, then_ex, then_st, then_ite, toR_rt, toR_nx, toR_ex, toR_ite, iteR_and, iteR_or, iteR_b, iteO_b, notD_b, getV0, getV1, getVs, ev_cn, ev_var, ev_tup, ev_lst, ev_dct0, ev_u, ev_b, ev_and, ev_or, ev_not, ev_chain, ev_ite, ev_sl, ev_isi, ev_call, ev_lc, evs_nil, evs_cons, itemsR_l, itemsR_t, its_seq, its_rng1, its_rng2, ev_rg, rgs_1, rgs_2, its_enum, its_zip, its_rev, enumR_l, enumR_t, revR_l, revR_t, rgD_t, rgD_l, lcC_t, lcD, ex_skip, ex_seq, ex_asg, ex_if, ex_ret, ex_retN, ex_retV, ex_expr, ex_raise, ex_for, ex_while, ex_app, ex_ins, ex_ext, ex_aug, retO_f, add_i, sub_i, fdiv_i, mod_i, eq_i, ne_i, eq_b, ne_b, lt_i, le_i, gt_i, ge_i, is_b, min_i, max_i, idx_t, idx_l, atR0, atR1, len_t, len_l, tup_l, tup_t, lst_l, lst_t, neg_i, ix_i, rev_t, rev_l, sl_t, sl_l, partR_n, partR_i, isi_none_int, isi_none_bool, isi_none_str, isi_none_tuple, isi_none_list, isi_none_dict, isi_bool_int, isi_bool_bool, isi_bool_str, isi_bool_tuple, isi_bool_list, isi_bool_dict, isi_int_int, isi_int_bool, isi_int_str, isi_int_tuple, isi_int_list, isi_int_dict, isi_str_int, isi_str_bool, isi_str_str, isi_str_tuple, isi_str_list, isi_str_dict, isi_list_int, isi_list_bool, isi_list_str, isi_list_tuple, isi_list_list, isi_list_dict, isi_tuple_int, isi_tuple_bool, isi_tuple_str, isi_tuple_tuple, isi_tuple_list, isi_tuple_dict, isi_dict_int, isi_dict_bool, isi_dict_str, isi_dict_tuple, isi_dict_list, isi_dict_dict, start_cons, start_nil1, start_nil0, Bool.not_true, Bool.not_false, decide_eq_true_eq, Bool.not_eq_true', decide_eq_false_iff_not, Bool.false_eq_true, if_false, if_true, reduceIte, List.nil_append, List.append_nil, List.cons_append, asgO_one, asgO_tup, env1_id, decide_true, lk0, lk1, lks, lkI, lkI0, freeze, freeze1, lockL, lock1, unlockL, unlock1, bindT, bindTs, fresh, ownable, wipeE, List.getElem?_cons_zero, List.getElem?_cons_succ, List.set_cons_zero, List.set_cons_succ, List.length_cons, List.length_nil, Bool.false_and, Bool.true_and, Bool.and_true, Bool.and_false, Nat.reduceAdd, Nat.reduceLT, Nat.reduceLeDiff, Option.some.injEq, reduceCtorEq]
      show exec F true (.ext 2 _) _ = _
      rw [ex_ext, hlc _ rfl, extO_l (xs := base ++ ((List.range i).flatMap fun p => (List.range w).map fun o => (p, m + o)).map (tieD f)) rfl rfl (by rw [List.length_append]; exact hl)]
      rw [cross_succ, List.map_append, ← List.append_assoc]
      rfl)
  rw [he, rngD_len]
  exact ⟨o7', rfl⟩
/-- a child's turn -/
theorem ties_turn {k n : Nat} (h1 : T "ones_in" = some c_ones_in) (ih : ∀ (f : Nat) (t : D), PN n t → f + cntN n t ≤ 1000 → callT T (k + n) "ties_of" [t, .int (f : Nat)] = .ok (.list ((tiesN n t).map (tieD f))))
    (ac : Bool) (ts : List D) (f : Nat) (t : D) (ht : PN n t) (S : Nat × List (Nat × Nat)) (hf : f + S.1 + cntN n t ≤ 1000) (hS : S.2.length ≤ S.1 * S.1) (o5 o6 o7 : Option (D × Fl)) :
    ∃ o7', turn ⟨callT T (k + n), frOf T⟩ true (.one 5) c_ties_of_b1 t [some (nodeD ac ts, .fro), some (.int (f : Nat), .fro), some (.list (S.2.map (tieD f)), .own), some (.list (rngD (f : Int) S.1), .own), some (.int ((f + S.1 : Nat) : Int), .fro), o5, o6, o7, none] =
      .nx [some (nodeD ac ts, .fro), some (.int (f : Nat), .fro), some (.list ((stepW (cntN n) (tiesN n) ac S t).2.map (tieD f)), .own), some (.list (rngD (f : Int) (stepW (cntN n) (tiesN n) ac S t).1), .own), some (.int ((f + (stepW (cntN n) (tiesN n) ac S t).1 : Nat) : Int), .fro), some (t, .fro), some (.list (rngD ((f + S.1 : Nat) : Int) (cntN n t)), .own), o7', none] := by
  have e1 : callT T (k + n) "ones_in" [t] = .ok (.int (cntN n t : Nat)) := by
    rw [ones_in_eq h1 n k t ht.so, cnt_ones ht]
  have e2 := ih (f + S.1) t ht (by omega)
  have er : rng2 (.int ((f + S.1 : Nat) : Int)) (.int (((f + S.1 : Nat) : Int) + (cntN n t : Nat))) = .ok (rngD ((f + S.1 : Nat) : Int) (cntN n t)) := by
    rw [rng2_ok (by omega) (by omega) (by omega) (by omega)]
    congr 2
    omega
  have b1 : S.1 * S.1 ≤ 1000 * 1000 := Nat.mul_le_mul (by omega) (by omega)
  have b2 := ties_len n t
  have b3 : cntN n t * cntN n t ≤ 1000 * 1000 := Nat.mul_le_mul (by omega) (by omega)
  have hlim : lim = 16777216 := rfl
  unfold turn
  simp only [bind_ok, bind_stuck, bind_ite, toO_ok, toO_exc, toO_ite, nox_ok, nox_ite, then_nx, then_rt, then_ex, then_st, then_ite, toR_rt, toR_nx, toR_ex, toR_ite, iteR_and, iteR_or, iteR_b, iteO_b, notD_b, getV0, getV1, getVs, ev_cn, ev_var, ev_tup, ev_lst, ev_dct0, ev_u, ev_b, ev_and, ev_or, ev_not, ev_chain, ev_ite, ev_sl, ev_isi, ev_call, ev_lc, evs_nil, evs_cons, itemsR_l, itemsR_t, its_seq, its_rng1, its_rng2, ev_rg, rgs_1, rgs_2, its_enum, its_zip, its_rev, enumR_l, enumR_t, revR_l, revR_t, rgD_t, rgD_l, lcC_t, lcD, ex_skip, ex_seq, ex_asg, ex_if, ex_ret, ex_retN, ex_retV, ex_expr, ex_raise, ex_for, ex_while, ex_app, ex_ins, ex_ext, ex_aug, retO_f, add_i, sub_i, fdiv_i, mod_i, eq_i, ne_i, eq_b, ne_b, lt_i, le_i, gt_i, ge_i, is_b, min_i, max_i, idx_t, idx_l, atR0, atR1, len_t, len_l, tup_l, tup_t, lst_l, lst_t, neg_i, ix_i, rev_t, rev_l, sl_t, sl_l, partR_n, partR_i, isi_none_int, isi_none_bool, isi_none_str, isi_none_tuple, isi_none_list, isi_none_dict, isi_bool_int, isi_bool_bool, isi_bool_str, isi_bool_tuple, isi_bool_list, isi_bool_dict, isi_int_int, isi_int_bool, isi_int_str, isi_int_tuple, isi_int_list, isi_int_dict, isi_str_int, isi_str_bool, isi_str_str, isi_str_tuple, isi_str_list, isi_str_dict, isi_list_int, isi_list_bool, isi_list_str, isi_list_tuple, isi_list_list, isi_list_dict, isi_tuple_int, isi_tuple_bool, isi_tuple_str, isi_tuple_tuple, isi_tuple_list, isi_tuple_dict, isi_dict_int, isi_dict_bool, isi_dict_str, isi_dict_tuple, isi_dict_list, isi_dict_dict, start_cons, start_nil1, start_nil0, Bool.not_true, Bool.not_false, decide_eq_true_eq, Bool.not_eq_true', decide_eq_false_iff_not, Bool.false_eq_true, if_false, if_true, reduceIte, List.nil_append, List.append_nil, List.cons_append, asgO_one, asgO_tup, env1_id, decide_true, lk0, lk1, lks, lkI, lkI0, freeze, freeze1, lockL, lock1, unlockL, unlock1, bindT, bindTs, fresh, ownable, wipeE, List.getElem?_cons_zero, List.getElem?_cons_succ, List.set_cons_zero, List.set_cons_succ, List.length_cons, List.length_nil, Bool.false_and, Bool.true_and, Bool.and_true, Bool.and_false, Nat.reduceAdd, Nat.reduceLT, Nat.reduceLeDiff, Option.some.injEq, reduceCtorEq, c_ties_of_b1, e1, er, e2]
  rw [extO_l (xs := S.2.map (tieD f)) rfl rfl (by rw [List.length_map, List.length_map]; omega)]
  simp only [bind_ok, bind_stuck, bind_ite, toO_ok, toO_exc, toO_ite, nox_ok, nox_ite, then_nx, then_rt, then_ex, then_st, then_ite, toR_rt, toR_nx, toR_ex, toR_ite, iteR_and, iteR_or, iteR_b, iteO_b, notD_b, getV0, getV1, getVs, ev_cn, ev_var, ev_tup, ev_lst, ev_dct0, ev_u, ev_b, ev_and, ev_or, ev_not, ev_chain, ev_ite, ev_sl, ev_isi, ev_call, ev_lc, evs_nil, evs_cons, itemsR_l, itemsR_t, its_seq, its_rng1, its_rng2, ev_rg, rgs_1, rgs_2, its_enum, its_zip, its_rev, enumR_l, enumR_t, revR_l, revR_t, rgD_t, rgD_l, lcC_t, lcD, ex_skip, ex_seq, ex_asg, ex_if, ex_ret, ex_retN, ex_retV, ex_expr, ex_raise, ex_for, ex_while, ex_app, ex_ins, ex_ext, ex_aug, retO_f, add_i, sub_i, fdiv_i, mod_i, eq_i, ne_i, eq_b, ne_b, lt_i, le_i, gt_i, ge_i, is_b, min_i, max_i, idx_t, idx_l, atR0, atR1, len_t, len_l, tup_l, tup_t, lst_l, lst_t, neg_i, ix_i, rev_t, rev_l, sl_t, sl_l, partR_n, partR_i, isi_none_int, isi_none_bool, isi_none_str, isi_none_tuple, isi_none_list, isi_none_dict, isi_bool_int, isi_bool_bool, isi_bool_str, isi_bool_tuple, isi_bool_list, isi_bool_dict, isi_int_int, isi_int_bool, isi_int_str, isi_int_tuple, isi_int_list, isi_int_dict, isi_str_int, isi_str_bool, isi_str_str, isi_str_tuple, isi_str_list, isi_str_dict, isi_list_int, isi_list_bool, isi_list_str, isi_list_tuple, isi_list_list, isi_list_dict, isi_tuple_int, isi_tuple_bool, isi_tuple_str, isi_tuple_tuple, isi_tuple_list, isi_tuple_dict, isi_dict_int, isi_dict_bool, isi_dict_str, isi_dict_tuple, isi_dict_list, isi_dict_dict, start_cons, start_nil1, start_nil0, Bool.not_true, Bool.not_false, decide_eq_true_eq, Bool.not_eq_true', decide_eq_false_iff_not, Bool.false_eq_true, if_false, if_true, reduceIte, List.nil_append, List.append_nil, List.cons_append, asgO_one, asgO_tup, env1_id, decide_true, lk0, lk1, lks, lkI, lkI0, freeze, freeze1, lockL, lock1, unlockL, unlock1, bindT, bindTs, fresh, ownable, wipeE, List.getElem?_cons_zero, List.getElem?_cons_succ, List.set_cons_zero, List.set_cons_succ, List.length_cons, List.length_nil, Bool.false_and, Bool.true_and, Bool.and_true, Bool.and_false, Nat.reduceAdd, Nat.reduceLT, Nat.reduceLeDiff, Option.some.injEq, reduceCtorEq, nodeD, eq_ac]
  have tail : ∀ (o7' : Option (D × Fl)) (L : List D) (pd : D), (extO 3 (.var 6) [some (pd, .fro), some (.int (f : Nat), .fro), some (.list L, .own), some (.list (rngD (f : Int) S.1), .own), some (.int ((f + S.1 : Nat) : Int), .fro), some (t, .fro), some (.list (rngD ((f + S.1 : Nat) : Int) (cntN n t)), .own), o7', none] (.ok (.list (rngD ((f + S.1 : Nat) : Int) (cntN n t))))) =
      .nx [some (pd, .fro), some (.int (f : Nat), .fro), some (.list L, .own), some (.list (rngD (f : Int) (S.1 + cntN n t)), .own), some (.int ((f + S.1 : Nat) : Int), .fro), some (t, .fro), some (.list (rngD ((f + S.1 : Nat) : Int) (cntN n t)), .own), o7', none] := fun o7' L pd => by
    rw [extO_l (xs := rngD (f : Int) S.1) rfl rfl (by rw [rngD_len, rngD_len]; omega), rng_app]
    rfl
  have ec : ((f + S.1 : Nat) : Int) + ((cntN n t : Nat) : Int) = ((f + (S.1 + cntN n t) : Nat) : Int) := by omega
  cases ac with
  | false =>
    refine ⟨o7, ?_⟩
    simp only [bind_ok, bind_stuck, bind_ite, toO_ok, toO_exc, toO_ite, nox_ok, nox_ite, then_nx, then_rt, then_ex, then_st, then_ite, toR_rt, toR_nx, toR_ex, toR_ite, iteR_and, iteR_or, iteR_b, iteO_b, notD_b, getV0, getV1, getVs, ev_cn, ev_var, ev_tup, ev_lst, ev_dct0, ev_u, ev_b, ev_and, ev_or, ev_not, ev_chain, ev_ite, ev_sl, ev_isi, ev_call, ev_lc, evs_nil, evs_cons, itemsR_l, itemsR_t, its_seq, its_rng1, its_rng2, ev_rg, rgs_1, rgs_2, its_enum, its_zip, its_rev, enumR_l, enumR_t, revR_l, revR_t, rgD_t, rgD_l, lcC_t, lcD, ex_skip, ex_seq, ex_asg, ex_if, ex_ret, ex_retN, ex_retV, ex_expr, ex_raise, ex_for, ex_while, ex_app, ex_ins, ex_ext, ex_aug, retO_f, add_i, sub_i, fdiv_i, mod_i, eq_i, ne_i, eq_b, ne_b, lt_i, le_i, gt_i, ge_i, is_b, min_i, max_i, idx_t, idx_l, atR0, atR1, len_t, len_l, tup_l, tup_t, lst_l, lst_t, neg_i, ix_i, rev_t, rev_l, sl_t, sl_l, partR_n, partR_i, isi_none_int, isi_none_bool, isi_none_str, isi_none_tuple, isi_none_list, isi_none_dict, isi_bool_int, isi_bool_bool, isi_bool_str, isi_bool_tuple, isi_bool_list, isi_bool_dict, isi_int_int, isi_int_bool, isi_int_str, isi_int_tuple, isi_int_list, isi_int_dict, isi_str_int, isi_str_bool, isi_str_str, isi_str_tuple, isi_str_list, isi_str_dict, isi_list_int, isi_list_bool, isi_list_str, isi_list_tuple, isi_list_list, isi_list_dict, isi_tuple_int, isi_tuple_bool, isi_tuple_str, isi_tuple_tuple, isi_tuple_list, isi_tuple_dict, isi_dict_int, isi_dict_bool, isi_dict_str, isi_dict_tuple, isi_dict_list, isi_dict_dict, start_cons, start_nil1, start_nil0, Bool.not_true, Bool.not_false, decide_eq_true_eq, Bool.not_eq_true', decide_eq_false_iff_not, Bool.false_eq_true, if_false, if_true, reduceIte, List.nil_append, List.append_nil, List.cons_append, asgO_one, asgO_tup, env1_id, decide_true, lk0, lk1, lks, lkI, lkI0, freeze, freeze1, lockL, lock1, unlockL, unlock1, bindT, bindTs, fresh, ownable, wipeE, List.getElem?_cons_zero, List.getElem?_cons_succ, List.set_cons_zero, List.set_cons_succ, List.length_cons, List.length_nil, Bool.false_and, Bool.true_and, Bool.and_true, Bool.and_false, Nat.reduceAdd, Nat.reduceLT, Nat.reduceLeDiff, Option.some.injEq, reduceCtorEq, tail, rngD_len, ec]
    simp only [stepW, List.map_append, tie_sh, Bool.false_eq_true, if_false, List.append_nil]
  | true =>
    obtain ⟨o7', hin⟩ := ties_inner ⟨callT T (k + n), frOf T⟩ (.tuple [.str sAc, .tuple ts]) t f S.1 (cntN n t) (by omega) (by omega) (S.2.map (tieD f) ++ (tiesN n t).map (tieD (f + S.1))) (by rw [List.length_append, List.length_map, List.length_map]; omega) (.int ((f + S.1 : Nat) : Int)) o7
    refine ⟨o7', ?_⟩
    simp only [bind_ok, bind_stuck, bind_ite, toO_ok, toO_exc, toO_ite, nox_ok, nox_ite, then_nx, then_rt, then_ex, then_st, then_ite, toR_rt, toR_nx, toR_ex, toR_ite, iteR_and, iteR_or, iteR_b, iteO_b, notD_b, getV0, getV1, getVs, ev_cn, ev_var, ev_tup, ev_lst, ev_dct0, ev_u, ev_b, ev_and, ev_or, ev_not, ev_chain, ev_ite, ev_sl, ev_isi, ev_call, ev_lc, evs_nil, evs_cons, itemsR_l, itemsR_t, its_seq, its_rng1, its_rng2, ev_rg, rgs_1, rgs_2, its_enum, its_zip, its_rev, enumR_l, enumR_t, revR_l, revR_t, rgD_t, rgD_l, lcC_t, lcD, ex_skip, ex_seq, ex_asg, ex_if, ex_ret, ex_retN, ex_retV, ex_expr, ex_raise, ex_for, ex_while, ex_app, ex_ins, ex_ext, ex_aug, retO_f, add_i, sub_i, fdiv_i, mod_i, eq_i, ne_i, eq_b, ne_b, lt_i, le_i, gt_i, ge_i, is_b, min_i, max_i, idx_t, idx_l, atR0, atR1, len_t, len_l, tup_l, tup_t, lst_l, lst_t, neg_i, ix_i, rev_t, rev_l, sl_t, sl_l, partR_n, partR_i, isi_none_int, isi_none_bool, isi_none_str, isi_none_tuple, isi_none_list, isi_none_dict, isi_bool_int, isi_bool_bool, isi_bool_str, isi_bool_tuple, isi_bool_list, isi_bool_dict, isi_int_int, isi_int_bool, isi_int_str, isi_int_tuple, isi_int_list, isi_int_dict, isi_str_int, isi_str_bool, isi_str_str, isi_str_tuple, isi_str_list, isi_str_dict, isi_list_int, isi_list_bool, isi_list_str, isi_list_tuple, isi_list_list, isi_list_dict, isi_tuple_int, isi_tuple_bool, isi_tuple_str, isi_tuple_tuple, isi_tuple_list, isi_tuple_dict, isi_dict_int, isi_dict_bool, isi_dict_str, isi_dict_tuple, isi_dict_list, isi_dict_dict, start_cons, start_nil1, start_nil0, Bool.not_true, Bool.not_false, decide_eq_true_eq, Bool.not_eq_true', decide_eq_false_iff_not, Bool.false_eq_true, if_false, if_true, reduceIte, List.nil_append, List.append_nil, List.cons_append, asgO_one, asgO_tup, env1_id, decide_true, lk0, lk1, lks, lkI, lkI0, freeze, freeze1, lockL, lock1, unlockL, unlock1, bindT, bindTs, fresh, ownable, wipeE, List.getElem?_cons_zero, List.getElem?_cons_succ, List.set_cons_zero, List.set_cons_succ, List.length_cons, List.length_nil, Bool.false_and, Bool.true_and, Bool.and_true, Bool.and_false, Nat.reduceAdd, Nat.reduceLT, Nat.reduceLeDiff, Option.some.injEq, reduceCtorEq, forO, hin, tail, rngD_len, ec]
    simp only [stepW, List.map_append, tie_sh, if_true]
theorem take_sum (c : D → Nat) : ∀ {ts : List D} {i : Nat} {t : D}, ts[i]? = some t → ((ts.take i).map c).sum + c t ≤ (ts.map c).sum
  | [], i, t, h => by cases h
  | x :: ts, 0, t, h => by
    cases h
    simp
  | x :: ts, i + 1, t, h => by
    have := take_sum c (ts := ts) (i := i) (by simpa using h)
    simp only [List.take_succ_cons, List.map_cons, List.sum_cons]
    omega
theorem fold_take {α : Type} (g : α → D → α) (s : α) {ts : List D} {i : Nat} {t : D} (h : ts[i]? = some t) : (ts.take (i + 1)).foldl g s = g ((ts.take i).foldl g s) t := by
  rw [List.take_add_one, h]
  simp
theorem ties_of_eq (h1 : T "ones_in" = some c_ones_in) (h2 : T "ties_of" = some c_ties_of) : ∀ (n k f : Nat) (d : D), PN n d → f + cntN n d ≤ 1000 → callT T (k + n) "ties_of" [d, .int (f : Nat)] = .ok (.list ((tiesN n d).map (tieD f)))
  | 0, k, f, d, h, _ => h.elim
  | n + 1, k, f, d, h, hc => by
    show callT T (k + n + 1) _ _ = _
    rw [L3.callT_eq _ h2 rfl]
    rcases h with rfl | ⟨ac, ts, rfl, hl, hp⟩
    · simp only [bind_ok, bind_stuck, bind_ite, toO_ok, toO_exc, toO_ite, nox_ok, nox_ite, then_nx, then_rt, then_ex, then_st, then_ite, toR_rt, toR_nx, toR_ex, toR_ite, iteR_and, iteR_or, iteR_b, iteO_b, notD_b, getV0, getV1, getVs, ev_cn, ev_var, ev_tup, ev_lst, ev_dct0, ev_u, ev_b, ev_and, ev_or, ev_not, ev_chain, ev_ite, ev_sl, ev_isi, ev_call, ev_lc, evs_nil, evs_cons, itemsR_l, itemsR_t, its_seq, its_rng1, its_rng2, ev_rg, rgs_1, rgs_2, its_enum, its_zip, its_rev, enumR_l, enumR_t, revR_l, revR_t, rgD_t, rgD_l, lcC_t, lcD, ex_skip, ex_seq, ex_asg, ex_if, ex_ret, ex_retN, ex_retV, ex_expr, ex_raise, ex_for, ex_while, ex_app, ex_ins, ex_ext, ex_aug, retO_f, add_i, sub_i, fdiv_i, mod_i, eq_i, ne_i, eq_b, ne_b, lt_i, le_i, gt_i, ge_i, is_b, min_i, max_i, idx_t, idx_l, atR0, atR1, len_t, len_l, tup_l, tup_t, lst_l, lst_t, neg_i, ix_i, rev_t, rev_l, sl_t, sl_l, partR_n, partR_i, isi_none_int, isi_none_bool, isi_none_str, isi_none_tuple, isi_none_list, isi_none_dict, isi_bool_int, isi_bool_bool, isi_bool_str, isi_bool_tuple, isi_bool_list, isi_bool_dict, isi_int_int, isi_int_bool, isi_int_str, isi_int_tuple, isi_int_list, isi_int_dict, isi_str_int, isi_str_bool, isi_str_str, isi_str_tuple, isi_str_list, isi_str_dict, isi_list_int, isi_list_bool, isi_list_str, isi_list_tuple, isi_list_list, isi_list_dict, isi_tuple_int, isi_tuple_bool, isi_tuple_str, isi_tuple_tuple, isi_tuple_list, isi_tuple_dict, isi_dict_int, isi_dict_bool, isi_dict_str, isi_dict_tuple, isi_dict_list, isi_dict_dict, start_cons, start_nil1, start_nil0, Bool.not_true, Bool.not_false, decide_eq_true_eq, Bool.not_eq_true', decide_eq_false_iff_not, Bool.false_eq_true, if_false, if_true, reduceIte, List.nil_append, List.append_nil, List.cons_append, asgO_one, asgO_tup, env1_id, decide_true, lk0, lk1, lks, lkI, lkI0, freeze, freeze1, lockL, lock1, unlockL, unlock1, bindT, bindTs, fresh, ownable, wipeE, List.getElem?_cons_zero, List.getElem?_cons_succ, List.set_cons_zero, List.set_cons_succ, List.length_cons, List.length_nil, Bool.false_and, Bool.true_and, Bool.and_true, Bool.and_false, Nat.reduceAdd, Nat.reduceLT, Nat.reduceLeDiff, Option.some.injEq, reduceCtorEq, c_ties_of, oneD, cast1, lstR, lim]
      rfl
    · have ez : (((0 + 1 + 1 : Nat) : Int) = 1) = False := eq_false (by decide)
      have hcnt : cntN (n + 1) (nodeD ac ts) = (ts.map (cntN n)).sum := rfl
      have hti : tiesN (n + 1) (nodeD ac ts) = (ts.foldl (stepW (cntN n) (tiesN n) ac) (0, [])).2 := by
        show (ts.foldl (stepW (cntN n) (tiesN n) (isAc _)) (0, [])).2 = _
        rw [isAc_node]
      rw [hcnt] at hc
      rw [hti]
      obtain ⟨e, he, o5, o6, o7, rfl⟩ := forL_nx (f := turn ⟨callT T (k + n), frOf T⟩ true (.one 5) c_ties_of_b1) (fun i e => ∃ o5 o6 o7, e = [some (nodeD ac ts, .fro), some (.int (f : Nat), .fro), some (.list (((ts.take i).foldl (stepW (cntN n) (tiesN n) ac) (0, [])).2.map (tieD f)), .own), some (.list (rngD (f : Int) ((ts.take i).foldl (stepW (cntN n) (tiesN n) ac) (0, [])).1), .own), some (.int ((f + ((ts.take i).foldl (stepW (cntN n) (tiesN n) ac) (0, [])).1 : Nat) : Int), .fro), o5, o6, o7, none])
        (ds := ts) (env := [some (nodeD ac ts, .fro), some (.int (f : Nat), .fro), some (.list [], .own), some (.list [], .own), some (.int (f : Nat), .fro), none, none, none, none]) ⟨none, none, none, rfl⟩ (by
          rintro i t e hd ⟨o5, o6, o7, rfl⟩
          have hs := fold_cnt (cntN n) (tiesN n) ac (ts.take i) (0, [])
          have hle := take_sum (cntN n) hd
          obtain ⟨o7', e'⟩ := ties_turn h1 (fun f t ht hc => ties_of_eq h1 h2 n k f t ht hc) ac ts f t (hp t (List.mem_of_getElem? hd)) ((ts.take i).foldl (stepW (cntN n) (tiesN n) ac) (0, [])) (by rw [hs]; simp only [Nat.zero_add]; omega)
            (fold_len _ _ _ (fun t => ties_len n t) _ _ (Nat.le_refl _)) o5 o6 o7
          rw [← fold_take (stepW (cntN n) (tiesN n) ac) (0, []) hd] at e'
          exact ⟨_, e', _, _, _, rfl⟩)
      rw [List.take_length] at he
      have hlp : nodeD ac ts = .tuple [.str (if ac then sAc else sBe), .tuple ts] := rfl
      simp only [bind_ok, bind_stuck, bind_ite, toO_ok, toO_exc, toO_ite, nox_ok, nox_ite, then_nx, then_rt, then_ex, then_st, then_ite, toR_rt, toR_nx, toR_ex, toR_ite, iteR_and, iteR_or, iteR_b, iteO_b, notD_b, getV0, getV1, getVs, ev_cn, ev_var, ev_tup, ev_lst, ev_dct0, ev_u, ev_b, ev_and, ev_or, ev_not, ev_chain, ev_ite, ev_sl, ev_isi, ev_call, ev_lc, evs_nil, evs_cons, itemsR_l, itemsR_t, its_seq, its_rng1, its_rng2, ev_rg, rgs_1, rgs_2, its_enum, its_zip, its_rev, enumR_l, enumR_t, revR_l, revR_t, rgD_t, rgD_l, lcC_t, lcD, ex_skip, ex_seq, ex_asg, ex_if, ex_ret, ex_retN, ex_retV, ex_expr, ex_raise, ex_for, ex_while, ex_app, ex_ins, ex_ext, ex_aug, retO_f, add_i, sub_i, fdiv_i, mod_i, eq_i, ne_i, eq_b, ne_b, lt_i, le_i, gt_i, ge_i, is_b, min_i, max_i, idx_t, idx_l, atR0, atR1, len_t, len_l, tup_l, tup_t, lst_l, lst_t, neg_i, ix_i, rev_t, rev_l, sl_t, sl_l, partR_n, partR_i, isi_none_int, isi_none_bool, isi_none_str, isi_none_tuple, isi_none_list, isi_none_dict, isi_bool_int, isi_bool_bool, isi_bool_str, isi_bool_tuple, isi_bool_list, isi_bool_dict, isi_int_int, isi_int_bool, isi_int_str, isi_int_tuple, isi_int_list, isi_int_dict, isi_str_int, isi_str_bool, isi_str_str, isi_str_tuple, isi_str_list, isi_str_dict, isi_list_int, isi_list_bool, isi_list_str, isi_list_tuple, isi_list_list, isi_list_dict, isi_tuple_int, isi_tuple_bool, isi_tuple_str, isi_tuple_tuple, isi_tuple_list, isi_tuple_dict, isi_dict_int, isi_dict_bool, isi_dict_str, isi_dict_tuple, isi_dict_list, isi_dict_dict, start_cons, start_nil1, start_nil0, Bool.not_true, Bool.not_false, decide_eq_true_eq, Bool.not_eq_true', decide_eq_false_iff_not, Bool.false_eq_true, if_false, if_true, reduceIte, List.nil_append, List.append_nil, List.cons_append, asgO_one, asgO_tup, env1_id, decide_true, lk0, lk1, lks, lkI, lkI0, freeze, freeze1, lockL, lock1, unlockL, unlock1, bindT, bindTs, fresh, ownable, wipeE, List.getElem?_cons_zero, List.getElem?_cons_succ, List.set_cons_zero, List.set_cons_succ, List.length_cons, List.length_nil, Bool.false_and, Bool.true_and, Bool.and_true, Bool.and_false, Nat.reduceAdd, Nat.reduceLT, Nat.reduceLeDiff, Option.some.injEq, reduceCtorEq, c_ties_of, nodeD, ez, lstR, lim]
      rw [← hlp]
      simp only [bind_ok, bind_stuck, bind_ite, toO_ok, toO_exc, toO_ite, nox_ok, nox_ite, then_nx, then_rt, then_ex, then_st, then_ite, toR_rt, toR_nx, toR_ex, toR_ite, iteR_and, iteR_or, iteR_b, iteO_b, notD_b, getV0, getV1, getVs, ev_cn, ev_var, ev_tup, ev_lst, ev_dct0, ev_u, ev_b, ev_and, ev_or, ev_not, ev_chain, ev_ite, ev_sl, ev_isi, ev_call, ev_lc, evs_nil, evs_cons, itemsR_l, itemsR_t, its_seq, its_rng1, its_rng2, ev_rg, rgs_1, rgs_2, its_enum, its_zip, its_rev, enumR_l, enumR_t, revR_l, revR_t, rgD_t, rgD_l, lcC_t, lcD, ex_skip, ex_seq, ex_asg, ex_if, ex_ret, ex_retN, ex_retV, ex_expr, ex_raise, ex_for, ex_while, ex_app, ex_ins, ex_ext, ex_aug, retO_f, add_i, sub_i, fdiv_i, mod_i, eq_i, ne_i, eq_b, ne_b, lt_i, le_i, gt_i, ge_i, is_b, min_i, max_i, idx_t, idx_l, atR0, atR1, len_t, len_l, tup_l, tup_t, lst_l, lst_t, neg_i, ix_i, rev_t, rev_l, sl_t, sl_l, partR_n, partR_i, isi_none_int, isi_none_bool, isi_none_str, isi_none_tuple, isi_none_list, isi_none_dict, isi_bool_int, isi_bool_bool, isi_bool_str, isi_bool_tuple, isi_bool_list, isi_bool_dict, isi_int_int, isi_int_bool, isi_int_str, isi_int_tuple, isi_int_list, isi_int_dict, isi_str_int, isi_str_bool, isi_str_str, isi_str_tuple, isi_str_list, isi_str_dict, isi_list_int, isi_list_bool, isi_list_str, isi_list_tuple, isi_list_list, isi_list_dict, isi_tuple_int, isi_tuple_bool, isi_tuple_str, isi_tuple_tuple, isi_tuple_list, isi_tuple_dict, isi_dict_int, isi_dict_bool, isi_dict_str, isi_dict_tuple, isi_dict_list, isi_dict_dict, start_cons, start_nil1, start_nil0, Bool.not_true, Bool.not_false, decide_eq_true_eq, Bool.not_eq_true', decide_eq_false_iff_not, Bool.false_eq_true, if_false, if_true, reduceIte, List.nil_append, List.append_nil, List.cons_append, asgO_one, asgO_tup, env1_id, decide_true, lk0, lk1, lks, lkI, lkI0, freeze, freeze1, lockL, lock1, unlockL, unlock1, bindT, bindTs, fresh, ownable, wipeE, List.getElem?_cons_zero, List.getElem?_cons_succ, List.set_cons_zero, List.set_cons_succ, List.length_cons, List.length_nil, Bool.false_and, Bool.true_and, Bool.and_true, Bool.and_false, Nat.reduceAdd, Nat.reduceLT, Nat.reduceLeDiff, Option.some.injEq, reduceCtorEq, forO, he]
      rfl
/-! ### the law's own walk -/
theorem web_inner (F : FT) (d t : D) (m w : Nat) (hm : m ≤ 1000) (hw : w ≤ 1000) (base : List D) (hb : base.length ≤ 3000000) (o5 o6 : Option (D × Fl)) :
    ∃ o6', forL (turn F false (.one 6) c__law_web_of_b0) (rngD 0 m) [some (d, .fro), some (.int (m : Nat), .fro), some (.list base, .own), some (t, .fro), some (.int (w : Nat), .fro), o5, o6, none, none, none] =
      .nx [some (d, .fro), some (.int (m : Nat), .fro), some (.list (base ++ (crossL m w).map (tieD 0)), .own), some (t, .fro), some (.int (w : Nat), .fro), o5, o6', none, none, none] := by
  obtain ⟨e, he, o6', rfl⟩ := forL_nx (f := turn F false (.one 6) c__law_web_of_b0) (fun i e => ∃ o6, e = [some (d, .fro), some (.int (m : Nat), .fro), some (.list (base ++ ((List.range i).flatMap fun p => (List.range w).map fun o => (p, m + o)).map (tieD 0)), .own), some (t, .fro), some (.int (w : Nat), .fro), o5, o6, none, none, none])
    (ds := rngD 0 m) (env := [some (d, .fro), some (.int (m : Nat), .fro), some (.list base, .own), some (t, .fro), some (.int (w : Nat), .fro), o5, o6, none, none, none])
    ⟨o6, by simp⟩ (by
      rintro i x e hd ⟨o6, rfl⟩
      have hin : i < m := by
        have := (List.getElem?_eq_some_iff.mp hd).1
        rwa [rngD_len] at this
      have hd' : x = .int (0 + (i : Int)) := by
        unfold rngD at hd
        rw [List.getElem?_map, List.getElem?_range hin] at hd
        exact (Option.some.inj hd).symm
      subst hd'
      unfold turn
      have hlc : ∀ env' : Env, env' = [some (d, .fro), some (.int (m : Nat), .fro), some (.list (base ++ ((List.range i).flatMap fun p => (List.range w).map fun o => (p, m + o)).map (tieD 0)), .own), some (t, .fro), some (.int (w : Nat), .fro), o5, some (.int (0 + (i : Int)), .fro), none, none, none] →
          ev F (.lc [9] (.one 9) (.rng1 (.var 4)) (.cn (.bool true)) (.tup (.cons (.var 6) (.cons (.b .add (.var 1) (.var 9)) .nil)))) env' = .ok (.list (((List.range w).map fun o => (i, m + o)).map (tieD 0))) := fun env' e' => by
        subst e'
        simp only [bind_ok, bind_stuck, bind_ite, toO_ok, toO_exc, toO_ite, nox_ok, nox_ite, then_nx, then_rt, then_ex, then_st, then_ite, toR_rt, toR_nx, toR_ex, toR_ite, iteR_and, iteR_or, iteR_b, iteO_b, notD_b, getV0, getV1, getVs, ev_cn, ev_var, ev_tup, ev_lst, ev_dct0, ev_u, ev_b, ev_and, ev_or, ev_not, ev_chain, ev_ite, ev_sl, ev_isi, ev_call, ev_lc, evs_nil, evs_cons, itemsR_l, itemsR_t, its_seq, its_rng1, its_rng2, ev_rg, rgs_1, rgs_2, its_enum, its_zip, its_rev, enumR_l, enumR_t, revR_l, revR_t, rgD_t, rgD_l, lcC_t, lcD, ex_skip, ex_seq, ex_asg, ex_if, ex_ret, ex_retN, ex_retV, ex_expr, ex_raise, ex_for, ex_while, ex_app, ex_ins, ex_ext, ex_aug, retO_f, add_i, sub_i, fdiv_i, mod_i, eq_i, ne_i, eq_b, ne_b, lt_i, le_i, gt_i, ge_i, is_b, min_i, max_i, idx_t, idx_l, atR0, atR1, len_t, len_l, tup_l, tup_t, lst_l, lst_t, neg_i, ix_i, rev_t, rev_l, sl_t, sl_l, partR_n, partR_i, isi_none_int, isi_none_bool, isi_none_str, isi_none_tuple, isi_none_list, isi_none_dict, isi_bool_int, isi_bool_bool, isi_bool_str, isi_bool_tuple, isi_bool_list, isi_bool_dict, isi_int_int, isi_int_bool, isi_int_str, isi_int_tuple, isi_int_list, isi_int_dict, isi_str_int, isi_str_bool, isi_str_str, isi_str_tuple, isi_str_list, isi_str_dict, isi_list_int, isi_list_bool, isi_list_str, isi_list_tuple, isi_list_list, isi_list_dict, isi_tuple_int, isi_tuple_bool, isi_tuple_str, isi_tuple_tuple, isi_tuple_list, isi_tuple_dict, isi_dict_int, isi_dict_bool, isi_dict_str, isi_dict_tuple, isi_dict_list, isi_dict_dict, start_cons, start_nil1, start_nil0, Bool.not_true, Bool.not_false, decide_eq_true_eq, Bool.not_eq_true', decide_eq_false_iff_not, Bool.false_eq_true, if_false, if_true, reduceIte, List.nil_append, List.append_nil, List.cons_append, asgO_one, asgO_tup, env1_id, decide_true, lk0, lk1, lks, lkI, lkI0, freeze, freeze1, lockL, lock1, unlockL, unlock1, bindT, bindTs, fresh, ownable, wipeE, List.getElem?_cons_zero, List.getElem?_cons_succ, List.set_cons_zero, List.set_cons_succ, List.length_cons, List.length_nil, Bool.false_and, Bool.true_and, Bool.and_true, Bool.and_false, Nat.reduceAdd, Nat.reduceLT, Nat.reduceLeDiff, Option.some.injEq, reduceCtorEq, rng1_ok (show -1000000 ≤ ((w : Nat) : Int) by omega) (show ((w : Nat) : Int) ≤ 16777216 by omega)]
        unfold rngD
        rw [Int.toNat_natCast, lcLoop_map2 (fun k : Nat => PyData.tuple [.int (0 + (i : Int)), .int (((m : Nat) : Int) + (0 + (k : Int)))]) (fun k _ => by
          simp only [bind_ok, bind_stuck, bind_ite, toO_ok, toO_exc, toO_ite, nox_ok, nox_ite, then_nx, then_rt, then_ex, then_st, then_ite, toR_rt, toR_nx, toR_ex, toR_ite, iteR_and, iteR_or, iteR_b, iteO_b, notD_b, getV0, getV1, getVs, ev_cn, ev_var, ev_tup, ev_lst, ev_dct0, ev_u, ev_b, ev_and, ev_or, ev_not, ev_chain, ev_ite, ev_sl, ev_isi, ev_call, ev_lc, evs_nil, evs_cons, itemsR_l, itemsR_t, its_seq, its_rng1, its_rng2, ev_rg, rgs_1, rgs_2, its_enum, its_zip, its_rev, enumR_l, enumR_t, revR_l, revR_t, rgD_t, rgD_l, lcC_t, lcD, ex_skip, ex_seq, ex_asg, ex_if, ex_ret, ex_retN, ex_retV, ex_expr, ex_raise, ex_for, ex_while, ex_app, ex_ins, ex_ext, ex_aug, retO_f, add_i, sub_i, fdiv_i, mod_i, eq_i, ne_i, eq_b, ne_b, lt_i, le_i, gt_i, ge_i, is_b, min_i, max_i, idx_t, idx_l, atR0, atR1, len_t, len_l, tup_l, tup_t, lst_l, lst_t, neg_i, ix_i, rev_t, rev_l, sl_t, sl_l, partR_n, partR_i, isi_none_int, isi_none_bool, isi_none_str, isi_none_tuple, isi_none_list, isi_none_dict, isi_bool_int, isi_bool_bool, isi_bool_str, isi_bool_tuple, isi_bool_list, isi_bool_dict, isi_int_int, isi_int_bool, isi_int_str, isi_int_tuple, isi_int_list, isi_int_dict, isi_str_int, isi_str_bool, isi_str_str, isi_str_tuple, isi_str_list, isi_str_dict, isi_list_int, isi_list_bool, isi_list_str, isi_list_tuple, isi_list_list, isi_list_dict, isi_tuple_int, isi_tuple_bool, isi_tuple_str, isi_tuple_tuple, isi_tuple_list, isi_tuple_dict, isi_dict_int, isi_dict_bool, isi_dict_str, isi_dict_tuple, isi_dict_list, isi_dict_dict, start_cons, start_nil1, start_nil0, Bool.not_true, Bool.not_false, decide_eq_true_eq, Bool.not_eq_true', decide_eq_false_iff_not, Bool.false_eq_true, if_false, if_true, reduceIte, List.nil_append, List.append_nil, List.cons_append, asgO_one, asgO_tup, env1_id, decide_true, lk0, lk1, lks, lkI, lkI0, freeze, freeze1, lockL, lock1, unlockL, unlock1, bindT, bindTs, fresh, ownable, wipeE, List.getElem?_cons_zero, List.getElem?_cons_succ, List.set_cons_zero, List.set_cons_succ, List.length_cons, List.length_nil, Bool.false_and, Bool.true_and, Bool.and_true, Bool.and_false, Nat.reduceAdd, Nat.reduceLT, Nat.reduceLeDiff, Option.some.injEq, reduceCtorEq, tupR, lim])]
        simp only [bind_ok, bind_stuck, bind_ite, toO_ok, toO_exc, toO_ite, nox_ok, nox_ite, then_nx, then_rt, then_ex, then_st, then_ite, toR_rt, toR_nx, toR_ex, toR_ite, iteR_and, iteR_or, iteR_b, iteO_b, notD_b, getV0, getV1, getVs, ev_cn, ev_var, ev_tup, ev_lst, ev_dct0, ev_u, ev_b, ev_and, ev_or, ev_not, ev_chain, ev_ite, ev_sl, ev_isi, ev_call, ev_lc, evs_nil, evs_cons, itemsR_l, itemsR_t, its_seq, its_rng1, its_rng2, ev_rg, rgs_1, rgs_2, its_enum, its_zip, its_rev, enumR_l, enumR_t, revR_l, revR_t, rgD_t, rgD_l, lcC_t, lcD, ex_skip, ex_seq, ex_asg, ex_if, ex_ret, ex_retN, ex_retV, ex_expr, ex_raise, ex_for, ex_while, ex_app, ex_ins, ex_ext, ex_aug, retO_f, add_i, sub_i, fdiv_i, mod_i, eq_i, ne_i, eq_b, ne_b, lt_i, le_i, gt_i, ge_i, is_b, min_i, max_i, idx_t, idx_l, atR0, atR1, len_t, len_l, tup_l, tup_t, lst_l, lst_t, neg_i, ix_i, rev_t, rev_l, sl_t, sl_l, partR_n, partR_i, isi_none_int, isi_none_bool, isi_none_str, isi_none_tuple, isi_none_list, isi_none_dict, isi_bool_int, isi_bool_bool, isi_bool_str, isi_bool_tuple, isi_bool_list, isi_bool_dict, isi_int_int, isi_int_bool, isi_int_str, isi_int_tuple, isi_int_list, isi_int_dict, isi_str_int, isi_str_bool, isi_str_str, isi_str_tuple, isi_str_list, isi_str_dict, isi_list_int, isi_list_bool, isi_list_str, isi_list_tuple, isi_list_list, isi_list_dict, isi_tuple_int, isi_tuple_bool, isi_tuple_str, isi_tuple_tuple, isi_tuple_list, isi_tuple_dict, isi_dict_int, isi_dict_bool, isi_dict_str, isi_dict_tuple, isi_dict_list, isi_dict_dict, start_cons, start_nil1, start_nil0, Bool.not_true, Bool.not_false, decide_eq_true_eq, Bool.not_eq_true', decide_eq_false_iff_not, Bool.false_eq_true, if_false, if_true, reduceIte, List.nil_append, List.append_nil, List.cons_append, asgO_one, asgO_tup, env1_id, decide_true, lk0, lk1, lks, lkI, lkI0, freeze, freeze1, lockL, lock1, unlockL, unlock1, bindT, bindTs, fresh, ownable, wipeE, List.getElem?_cons_zero, List.getElem?_cons_succ, List.set_cons_zero, List.set_cons_succ, List.length_cons, List.length_nil, Bool.false_and, Bool.true_and, Bool.and_true, Bool.and_false, Nat.reduceAdd, Nat.reduceLT, Nat.reduceLeDiff, Option.some.injEq, reduceCtorEq]
        rw [List.map_map]
        congr 2
        refine List.map_congr_left fun k _ => ?_
        show PyData.tuple [.int (0 + (i : Int)), .int (((m : Nat) : Int) + (0 + (k : Int)))] = PyData.tuple [.int ((0 + i : Nat) : Int), .int ((0 + (m + k) : Nat) : Int)]
        have e1 : 0 + (i : Int) = ((0 + i : Nat) : Int) := by omega
        have e2 : ((m : Nat) : Int) + (0 + (k : Int)) = ((0 + (m + k) : Nat) : Int) := by omega
        rw [e1, e2]
      have hl : base.length + (((List.range i).flatMap fun p => (List.range w).map fun o => (p, m + o)).map (tieD 0)).length + (((List.range w).map fun o => (i, m + o)).map (tieD 0)).length ≤ lim := by
        rw [List.length_map, part_len, List.length_map, List.length_map, List.length_range]
        have : i * w ≤ 1000 * 1000 := Nat.mul_le_mul (by omega) hw
        have hlim : lim = 16777216 := rfl
        omega
      refine ⟨_, ?_, some (.int (0 + (i : Int)), .fro), rfl⟩
      simp only [bind_ok, bind_stuck, bind_ite, toO_ok, toO_exc, toO_ite, nox_ok, nox_ite, then_nx, then_rt, then_ex, then_st, then_ite, toR_rt, toR_nx, toR_ex, toR_ite, iteR_and, iteR_or, iteR_b, iteO_b, notD_b, getV0, getV1, getVs, ev_cn, ev_var, ev_tup, ev_lst, ev_dct0, ev_u, ev_b, ev_and, ev_or, ev_not, ev_chain, ev_ite, ev_sl, ev_isi, ev_call, ev_lc, evs_nil, evs_cons, itemsR_l, itemsR_t, its_seq, its_rng1, its_rng2, ev_rg, rgs_1, rgs_2, its_enum, its_zip, its_rev, enumR_l, enumR_t, revR_l, revR_t, rgD_t, rgD_l, lcC_t, lcD, ex_skip, ex_seq, ex_asg, ex_if, ex_ret, ex_retN, ex_retV, ex_expr, ex_raise, ex_for, ex_while, ex_app, ex_ins, ex_ext, ex_aug, retO_f, add_i, sub_i, fdiv_i, mod_i, eq_i, ne_i, eq_b, ne_b, lt_i, le_i, gt_i, ge_i, is_b, min_i, max_i, idx_t, idx_l, atR0, atR1, len_t, len_l, tup_l, tup_t, lst_l, lst_t, neg_i, ix_i, rev_t, rev_l, sl_t, sl_l, partR_n, partR_i, isi_none_int, isi_none_bool, isi_none_str, isi_none_tuple, isi_none_list, isi_none_dict, isi_bool_int, isi_bool_bool, isi_bool_str, isi_bool_tuple, isi_bool_list, isi_bool_dict, isi_int_int, isi_int_bool, isi_int_str, isi_int_tuple, isi_int_list, isi_int_dict, isi_str_int, isi_str_bool, isi_str_str, isi_str_tuple, isi_str_list, isi_str_dict, isi_list_int, isi_list_bool, isi_list_str, isi_list_tuple, isi_list_list, isi_list_dict, isi_tuple_int, isi_tuple_bool, isi_tuple_str, isi_tuple_tuple, isi_tuple_list, isi_tuple_dict, isi_dict_int, isi_dict_bool, isi_dict_str, isi_dict_tuple, isi_dict_list, isi_dict_dict, start_cons, start_nil1, start_nil0, Bool.not_true, Bool.not_false, decide_eq_true_eq, Bool.not_eq_true', decide_eq_false_iff_not, Bool.false_eq_true, if_false, if_true, reduceIte, List.nil_append, List.append_nil, List.cons_append, asgO_one, asgO_tup, env1_id, decide_true, lk0, lk1, lks, lkI, lkI0, freeze, freeze1, lockL, lock1, unlockL, unlock1, bindT, bindTs, fresh, ownable, wipeE, List.getElem?_cons_zero, List.getElem?_cons_succ, List.set_cons_zero, List.set_cons_succ, List.length_cons, List.length_nil, Bool.false_and, Bool.true_and, Bool.and_true, Bool.and_false, Nat.reduceAdd, Nat.reduceLT, Nat.reduceLeDiff, Option.some.injEq, reduceCtorEq]
      show exec F false (.ext 2 _) _ = _
      rw [ex_ext, hlc _ rfl, extO_l (xs := base ++ ((List.range i).flatMap fun p => (List.range w).map fun o => (p, m + o)).map (tieD 0)) rfl rfl (by rw [List.length_append]; exact hl)]
      rw [cross_succ, List.map_append, ← List.append_assoc]
      rfl)
  rw [he, rngD_len]
  exact ⟨o6', rfl⟩
theorem eq_oneN {d : D} (hd : goodD 64 d) : op2 .eq d (.tuple [.str sOne]) = .ok (.bool (PyData.eqv d oneD)) := by
  have h1 := hd.shp (by decide)
  have h2 : shp oneD = true := (good_one 0).shp (by decide)
  have : (if (shp d && shp oneD) = true then R.ok (PyData.bool (PyData.eqv d oneD)) else .stuck) = R.ok (.bool (PyData.eqv d oneD)) := by rw [h1, h2]; rfl
  cases d <;> exact this
theorem eqv_oneN (x y : D) (r : List D) : PyData.eqv (.tuple (x :: y :: r)) oneD = false := by
  show (PyData.eqv x _ && false) = false
  rw [Bool.and_false]
theorem web_turn {k n : Nat} (ih : ∀ (t : D), PN n t → cntN n t ≤ 1000 → callT T (k + n) "_law_web_of" [t] = .ok (.tuple [.int (cntN n t : Nat), .list ((tiesN n t).map (tieD 0))]))
    (ac : Bool) (ts : List D) (t : D) (ht : PN n t) (S : Nat × List (Nat × Nat)) (hf : S.1 + cntN n t ≤ 1000) (hS : S.2.length ≤ S.1 * S.1) (o3 o4 o5 o6 : Option (D × Fl)) :
    ∃ o6', turn ⟨callT T (k + n), frOf T⟩ false (.one 3) c__law_web_of_b1 t [some (nodeD ac ts, .fro), some (.int (S.1 : Nat), .fro), some (.list (S.2.map (tieD 0)), .own), o3, o4, o5, o6, none, none, none] =
      .nx [some (nodeD ac ts, .fro), some (.int ((stepW (cntN n) (tiesN n) ac S t).1 : Nat), .fro), some (.list ((stepW (cntN n) (tiesN n) ac S t).2.map (tieD 0)), .own), some (t, .fro), some (.int (cntN n t : Nat), .fro), some (.list ((tiesN n t).map (tieD 0)), .fro), o6', none, none, none] := by
  have e2 := ih t ht (by omega)
  have b1 : S.1 * S.1 ≤ 1000 * 1000 := Nat.mul_le_mul (by omega) (by omega)
  have b2 := ties_len n t
  have b3 : cntN n t * cntN n t ≤ 1000 * 1000 := Nat.mul_le_mul (by omega) (by omega)
  have hlim : lim = 16777216 := rfl
  have ec : ((S.1 : Nat) : Int) + ((cntN n t : Nat) : Int) = ((S.1 + cntN n t : Nat) : Int) := by omega
  unfold turn
  simp only [bind_ok, bind_stuck, bind_ite, toO_ok, toO_exc, toO_ite, nox_ok, nox_ite, then_nx, then_rt, then_ex, then_st, then_ite, toR_rt, toR_nx, toR_ex, toR_ite, iteR_and, iteR_or, iteR_b, iteO_b, notD_b, getV0, getV1, getVs, ev_cn, ev_var, ev_tup, ev_lst, ev_dct0, ev_u, ev_b, ev_and, ev_or, ev_not, ev_chain, ev_ite, ev_sl, ev_isi, ev_call, ev_lc, evs_nil, evs_cons, itemsR_l, itemsR_t, its_seq, its_rng1, its_rng2, ev_rg, rgs_1, rgs_2, its_enum, its_zip, its_rev, enumR_l, enumR_t, revR_l, revR_t, rgD_t, rgD_l, lcC_t, lcD, ex_skip, ex_seq, ex_asg, ex_if, ex_ret, ex_retN, ex_retV, ex_expr, ex_raise, ex_for, ex_while, ex_app, ex_ins, ex_ext, ex_aug, retO_f, add_i, sub_i, fdiv_i, mod_i, eq_i, ne_i, eq_b, ne_b, lt_i, le_i, gt_i, ge_i, is_b, min_i, max_i, idx_t, idx_l, atR0, atR1, len_t, len_l, tup_l, tup_t, lst_l, lst_t, neg_i, ix_i, rev_t, rev_l, sl_t, sl_l, partR_n, partR_i, isi_none_int, isi_none_bool, isi_none_str, isi_none_tuple, isi_none_list, isi_none_dict, isi_bool_int, isi_bool_bool, isi_bool_str, isi_bool_tuple, isi_bool_list, isi_bool_dict, isi_int_int, isi_int_bool, isi_int_str, isi_int_tuple, isi_int_list, isi_int_dict, isi_str_int, isi_str_bool, isi_str_str, isi_str_tuple, isi_str_list, isi_str_dict, isi_list_int, isi_list_bool, isi_list_str, isi_list_tuple, isi_list_list, isi_list_dict, isi_tuple_int, isi_tuple_bool, isi_tuple_str, isi_tuple_tuple, isi_tuple_list, isi_tuple_dict, isi_dict_int, isi_dict_bool, isi_dict_str, isi_dict_tuple, isi_dict_list, isi_dict_dict, start_cons, start_nil1, start_nil0, Bool.not_true, Bool.not_false, decide_eq_true_eq, Bool.not_eq_true', decide_eq_false_iff_not, Bool.false_eq_true, if_false, if_true, reduceIte, List.nil_append, List.append_nil, List.cons_append, asgO_one, asgO_tup, env1_id, decide_true, lk0, lk1, lks, lkI, lkI0, freeze, freeze1, lockL, lock1, unlockL, unlock1, bindT, bindTs, fresh, ownable, wipeE, List.getElem?_cons_zero, List.getElem?_cons_succ, List.set_cons_zero, List.set_cons_succ, List.length_cons, List.length_nil, Bool.false_and, Bool.true_and, Bool.and_true, Bool.and_false, Nat.reduceAdd, Nat.reduceLT, Nat.reduceLeDiff, Option.some.injEq, reduceCtorEq, c__law_web_of_b1, e2]
  rw [lcLoop_map2 (tieD S.1) (fun p _ => by
      show _ = R.ok (some (PyData.tuple [.int ((S.1 + p.1 : Nat) : Int), .int ((S.1 + p.2 : Nat) : Int)]))
      have e1 : ((S.1 : Nat) : Int) + ((0 + p.1 : Nat) : Int) = ((S.1 + p.1 : Nat) : Int) := by omega
      have e2 : ((S.1 : Nat) : Int) + ((0 + p.2 : Nat) : Int) = ((S.1 + p.2 : Nat) : Int) := by omega
      unfold tieD
      simp only [bind_ok, bind_stuck, bind_ite, toO_ok, toO_exc, toO_ite, nox_ok, nox_ite, then_nx, then_rt, then_ex, then_st, then_ite, toR_rt, toR_nx, toR_ex, toR_ite, iteR_and, iteR_or, iteR_b, iteO_b, notD_b, getV0, getV1, getVs, ev_cn, ev_var, ev_tup, ev_lst, ev_dct0, ev_u, ev_b, ev_and, ev_or, ev_not, ev_chain, ev_ite, ev_sl, ev_isi, ev_call, ev_lc, evs_nil, evs_cons, itemsR_l, itemsR_t, its_seq, its_rng1, its_rng2, ev_rg, rgs_1, rgs_2, its_enum, its_zip, its_rev, enumR_l, enumR_t, revR_l, revR_t, rgD_t, rgD_l, lcC_t, lcD, ex_skip, ex_seq, ex_asg, ex_if, ex_ret, ex_retN, ex_retV, ex_expr, ex_raise, ex_for, ex_while, ex_app, ex_ins, ex_ext, ex_aug, retO_f, add_i, sub_i, fdiv_i, mod_i, eq_i, ne_i, eq_b, ne_b, lt_i, le_i, gt_i, ge_i, is_b, min_i, max_i, idx_t, idx_l, atR0, atR1, len_t, len_l, tup_l, tup_t, lst_l, lst_t, neg_i, ix_i, rev_t, rev_l, sl_t, sl_l, partR_n, partR_i, isi_none_int, isi_none_bool, isi_none_str, isi_none_tuple, isi_none_list, isi_none_dict, isi_bool_int, isi_bool_bool, isi_bool_str, isi_bool_tuple, isi_bool_list, isi_bool_dict, isi_int_int, isi_int_bool, isi_int_str, isi_int_tuple, isi_int_list, isi_int_dict, isi_str_int, isi_str_bool, isi_str_str, isi_str_tuple, isi_str_list, isi_str_dict, isi_list_int, isi_list_bool, isi_list_str, isi_list_tuple, isi_list_list, isi_list_dict, isi_tuple_int, isi_tuple_bool, isi_tuple_str, isi_tuple_tuple, isi_tuple_list, isi_tuple_dict, isi_dict_int, isi_dict_bool, isi_dict_str, isi_dict_tuple, isi_dict_list, isi_dict_dict, start_cons, start_nil1, start_nil0, Bool.not_true, Bool.not_false, decide_eq_true_eq, Bool.not_eq_true', decide_eq_false_iff_not, Bool.false_eq_true, if_false, if_true, reduceIte, List.nil_append, List.append_nil, List.cons_append, asgO_one, asgO_tup, env1_id, decide_true, lk0, lk1, lks, lkI, lkI0, freeze, freeze1, lockL, lock1, unlockL, unlock1, bindT, bindTs, fresh, ownable, wipeE, List.getElem?_cons_zero, List.getElem?_cons_succ, List.set_cons_zero, List.set_cons_succ, List.length_cons, List.length_nil, Bool.false_and, Bool.true_and, Bool.and_true, Bool.and_false, Nat.reduceAdd, Nat.reduceLT, Nat.reduceLeDiff, Option.some.injEq, reduceCtorEq, tupR, lim, e1, e2])]
  simp only [bind_ok, bind_stuck, bind_ite, toO_ok, toO_exc, toO_ite, nox_ok, nox_ite, then_nx, then_rt, then_ex, then_st, then_ite, toR_rt, toR_nx, toR_ex, toR_ite, iteR_and, iteR_or, iteR_b, iteO_b, notD_b, getV0, getV1, getVs, ev_cn, ev_var, ev_tup, ev_lst, ev_dct0, ev_u, ev_b, ev_and, ev_or, ev_not, ev_chain, ev_ite, ev_sl, ev_isi, ev_call, ev_lc, evs_nil, evs_cons, itemsR_l, itemsR_t, its_seq, its_rng1, its_rng2, ev_rg, rgs_1, rgs_2, its_enum, its_zip, its_rev, enumR_l, enumR_t, revR_l, revR_t, rgD_t, rgD_l, lcC_t, lcD, ex_skip, ex_seq, ex_asg, ex_if, ex_ret, ex_retN, ex_retV, ex_expr, ex_raise, ex_for, ex_while, ex_app, ex_ins, ex_ext, ex_aug, retO_f, add_i, sub_i, fdiv_i, mod_i, eq_i, ne_i, eq_b, ne_b, lt_i, le_i, gt_i, ge_i, is_b, min_i, max_i, idx_t, idx_l, atR0, atR1, len_t, len_l, tup_l, tup_t, lst_l, lst_t, neg_i, ix_i, rev_t, rev_l, sl_t, sl_l, partR_n, partR_i, isi_none_int, isi_none_bool, isi_none_str, isi_none_tuple, isi_none_list, isi_none_dict, isi_bool_int, isi_bool_bool, isi_bool_str, isi_bool_tuple, isi_bool_list, isi_bool_dict, isi_int_int, isi_int_bool, isi_int_str, isi_int_tuple, isi_int_list, isi_int_dict, isi_str_int, isi_str_bool, isi_str_str, isi_str_tuple, isi_str_list, isi_str_dict, isi_list_int, isi_list_bool, isi_list_str, isi_list_tuple, isi_list_list, isi_list_dict, isi_tuple_int, isi_tuple_bool, isi_tuple_str, isi_tuple_tuple, isi_tuple_list, isi_tuple_dict, isi_dict_int, isi_dict_bool, isi_dict_str, isi_dict_tuple, isi_dict_list, isi_dict_dict, start_cons, start_nil1, start_nil0, Bool.not_true, Bool.not_false, decide_eq_true_eq, Bool.not_eq_true', decide_eq_false_iff_not, Bool.false_eq_true, if_false, if_true, reduceIte, List.nil_append, List.append_nil, List.cons_append, asgO_one, asgO_tup, env1_id, decide_true, lk0, lk1, lks, lkI, lkI0, freeze, freeze1, lockL, lock1, unlockL, unlock1, bindT, bindTs, fresh, ownable, wipeE, List.getElem?_cons_zero, List.getElem?_cons_succ, List.set_cons_zero, List.set_cons_succ, List.length_cons, List.length_nil, Bool.false_and, Bool.true_and, Bool.and_true, Bool.and_false, Nat.reduceAdd, Nat.reduceLT, Nat.reduceLeDiff, Option.some.injEq, reduceCtorEq]
  rw [extO_l (xs := S.2.map (tieD 0)) rfl rfl (by rw [List.length_map, List.length_map]; omega)]
  simp only [bind_ok, bind_stuck, bind_ite, toO_ok, toO_exc, toO_ite, nox_ok, nox_ite, then_nx, then_rt, then_ex, then_st, then_ite, toR_rt, toR_nx, toR_ex, toR_ite, iteR_and, iteR_or, iteR_b, iteO_b, notD_b, getV0, getV1, getVs, ev_cn, ev_var, ev_tup, ev_lst, ev_dct0, ev_u, ev_b, ev_and, ev_or, ev_not, ev_chain, ev_ite, ev_sl, ev_isi, ev_call, ev_lc, evs_nil, evs_cons, itemsR_l, itemsR_t, its_seq, its_rng1, its_rng2, ev_rg, rgs_1, rgs_2, its_enum, its_zip, its_rev, enumR_l, enumR_t, revR_l, revR_t, rgD_t, rgD_l, lcC_t, lcD, ex_skip, ex_seq, ex_asg, ex_if, ex_ret, ex_retN, ex_retV, ex_expr, ex_raise, ex_for, ex_while, ex_app, ex_ins, ex_ext, ex_aug, retO_f, add_i, sub_i, fdiv_i, mod_i, eq_i, ne_i, eq_b, ne_b, lt_i, le_i, gt_i, ge_i, is_b, min_i, max_i, idx_t, idx_l, atR0, atR1, len_t, len_l, tup_l, tup_t, lst_l, lst_t, neg_i, ix_i, rev_t, rev_l, sl_t, sl_l, partR_n, partR_i, isi_none_int, isi_none_bool, isi_none_str, isi_none_tuple, isi_none_list, isi_none_dict, isi_bool_int, isi_bool_bool, isi_bool_str, isi_bool_tuple, isi_bool_list, isi_bool_dict, isi_int_int, isi_int_bool, isi_int_str, isi_int_tuple, isi_int_list, isi_int_dict, isi_str_int, isi_str_bool, isi_str_str, isi_str_tuple, isi_str_list, isi_str_dict, isi_list_int, isi_list_bool, isi_list_str, isi_list_tuple, isi_list_list, isi_list_dict, isi_tuple_int, isi_tuple_bool, isi_tuple_str, isi_tuple_tuple, isi_tuple_list, isi_tuple_dict, isi_dict_int, isi_dict_bool, isi_dict_str, isi_dict_tuple, isi_dict_list, isi_dict_dict, start_cons, start_nil1, start_nil0, Bool.not_true, Bool.not_false, decide_eq_true_eq, Bool.not_eq_true', decide_eq_false_iff_not, Bool.false_eq_true, if_false, if_true, reduceIte, List.nil_append, List.append_nil, List.cons_append, asgO_one, asgO_tup, env1_id, decide_true, lk0, lk1, lks, lkI, lkI0, freeze, freeze1, lockL, lock1, unlockL, unlock1, bindT, bindTs, fresh, ownable, wipeE, List.getElem?_cons_zero, List.getElem?_cons_succ, List.set_cons_zero, List.set_cons_succ, List.length_cons, List.length_nil, Bool.false_and, Bool.true_and, Bool.and_true, Bool.and_false, Nat.reduceAdd, Nat.reduceLT, Nat.reduceLeDiff, Option.some.injEq, reduceCtorEq, nodeD, eq_ac]
  cases ac with
  | false =>
    refine ⟨o6, ?_⟩
    simp only [bind_ok, bind_stuck, bind_ite, toO_ok, toO_exc, toO_ite, nox_ok, nox_ite, then_nx, then_rt, then_ex, then_st, then_ite, toR_rt, toR_nx, toR_ex, toR_ite, iteR_and, iteR_or, iteR_b, iteO_b, notD_b, getV0, getV1, getVs, ev_cn, ev_var, ev_tup, ev_lst, ev_dct0, ev_u, ev_b, ev_and, ev_or, ev_not, ev_chain, ev_ite, ev_sl, ev_isi, ev_call, ev_lc, evs_nil, evs_cons, itemsR_l, itemsR_t, its_seq, its_rng1, its_rng2, ev_rg, rgs_1, rgs_2, its_enum, its_zip, its_rev, enumR_l, enumR_t, revR_l, revR_t, rgD_t, rgD_l, lcC_t, lcD, ex_skip, ex_seq, ex_asg, ex_if, ex_ret, ex_retN, ex_retV, ex_expr, ex_raise, ex_for, ex_while, ex_app, ex_ins, ex_ext, ex_aug, retO_f, add_i, sub_i, fdiv_i, mod_i, eq_i, ne_i, eq_b, ne_b, lt_i, le_i, gt_i, ge_i, is_b, min_i, max_i, idx_t, idx_l, atR0, atR1, len_t, len_l, tup_l, tup_t, lst_l, lst_t, neg_i, ix_i, rev_t, rev_l, sl_t, sl_l, partR_n, partR_i, isi_none_int, isi_none_bool, isi_none_str, isi_none_tuple, isi_none_list, isi_none_dict, isi_bool_int, isi_bool_bool, isi_bool_str, isi_bool_tuple, isi_bool_list, isi_bool_dict, isi_int_int, isi_int_bool, isi_int_str, isi_int_tuple, isi_int_list, isi_int_dict, isi_str_int, isi_str_bool, isi_str_str, isi_str_tuple, isi_str_list, isi_str_dict, isi_list_int, isi_list_bool, isi_list_str, isi_list_tuple, isi_list_list, isi_list_dict, isi_tuple_int, isi_tuple_bool, isi_tuple_str, isi_tuple_tuple, isi_tuple_list, isi_tuple_dict, isi_dict_int, isi_dict_bool, isi_dict_str, isi_dict_tuple, isi_dict_list, isi_dict_dict, start_cons, start_nil1, start_nil0, Bool.not_true, Bool.not_false, decide_eq_true_eq, Bool.not_eq_true', decide_eq_false_iff_not, Bool.false_eq_true, if_false, if_true, reduceIte, List.nil_append, List.append_nil, List.cons_append, asgO_one, asgO_tup, env1_id, decide_true, lk0, lk1, lks, lkI, lkI0, freeze, freeze1, lockL, lock1, unlockL, unlock1, bindT, bindTs, fresh, ownable, wipeE, List.getElem?_cons_zero, List.getElem?_cons_succ, List.set_cons_zero, List.set_cons_succ, List.length_cons, List.length_nil, Bool.false_and, Bool.true_and, Bool.and_true, Bool.and_false, Nat.reduceAdd, Nat.reduceLT, Nat.reduceLeDiff, Option.some.injEq, reduceCtorEq, ec]
    simp only [stepW, List.map_append, tie_sh, Bool.false_eq_true, if_false, List.append_nil, Nat.zero_add]
  | true =>
    obtain ⟨o6', hin⟩ := web_inner ⟨callT T (k + n), frOf T⟩ (.tuple [.str sAc, .tuple ts]) t S.1 (cntN n t) (by omega) (by omega) (S.2.map (tieD 0) ++ (tiesN n t).map (tieD S.1)) (by rw [List.length_append, List.length_map, List.length_map]; omega) (some (.list ((tiesN n t).map (tieD 0)), .fro)) o6
    refine ⟨o6', ?_⟩
    simp only [bind_ok, bind_stuck, bind_ite, toO_ok, toO_exc, toO_ite, nox_ok, nox_ite, then_nx, then_rt, then_ex, then_st, then_ite, toR_rt, toR_nx, toR_ex, toR_ite, iteR_and, iteR_or, iteR_b, iteO_b, notD_b, getV0, getV1, getVs, ev_cn, ev_var, ev_tup, ev_lst, ev_dct0, ev_u, ev_b, ev_and, ev_or, ev_not, ev_chain, ev_ite, ev_sl, ev_isi, ev_call, ev_lc, evs_nil, evs_cons, itemsR_l, itemsR_t, its_seq, its_rng1, its_rng2, ev_rg, rgs_1, rgs_2, its_enum, its_zip, its_rev, enumR_l, enumR_t, revR_l, revR_t, rgD_t, rgD_l, lcC_t, lcD, ex_skip, ex_seq, ex_asg, ex_if, ex_ret, ex_retN, ex_retV, ex_expr, ex_raise, ex_for, ex_while, ex_app, ex_ins, ex_ext, ex_aug, retO_f, add_i, sub_i, fdiv_i, mod_i, eq_i, ne_i, eq_b, ne_b, lt_i, le_i, gt_i, ge_i, is_b, min_i, max_i, idx_t, idx_l, atR0, atR1, len_t, len_l, tup_l, tup_t, lst_l, lst_t, neg_i, ix_i, rev_t, rev_l, sl_t, sl_l, partR_n, partR_i, isi_none_int, isi_none_bool, isi_none_str, isi_none_tuple, isi_none_list, isi_none_dict, isi_bool_int, isi_bool_bool, isi_bool_str, isi_bool_tuple, isi_bool_list, isi_bool_dict, isi_int_int, isi_int_bool, isi_int_str, isi_int_tuple, isi_int_list, isi_int_dict, isi_str_int, isi_str_bool, isi_str_str, isi_str_tuple, isi_str_list, isi_str_dict, isi_list_int, isi_list_bool, isi_list_str, isi_list_tuple, isi_list_list, isi_list_dict, isi_tuple_int, isi_tuple_bool, isi_tuple_str, isi_tuple_tuple, isi_tuple_list, isi_tuple_dict, isi_dict_int, isi_dict_bool, isi_dict_str, isi_dict_tuple, isi_dict_list, isi_dict_dict, start_cons, start_nil1, start_nil0, Bool.not_true, Bool.not_false, decide_eq_true_eq, Bool.not_eq_true', decide_eq_false_iff_not, Bool.false_eq_true, if_false, if_true, reduceIte, List.nil_append, List.append_nil, List.cons_append, asgO_one, asgO_tup, env1_id, decide_true, lk0, lk1, lks, lkI, lkI0, freeze, freeze1, lockL, lock1, unlockL, unlock1, bindT, bindTs, fresh, ownable, wipeE, List.getElem?_cons_zero, List.getElem?_cons_succ, List.set_cons_zero, List.set_cons_succ, List.length_cons, List.length_nil, Bool.false_and, Bool.true_and, Bool.and_true, Bool.and_false, Nat.reduceAdd, Nat.reduceLT, Nat.reduceLeDiff, Option.some.injEq, reduceCtorEq, rng1_ok (show -1000000 ≤ ((S.1 : Nat) : Int) by omega) (show ((S.1 : Nat) : Int) ≤ 16777216 by omega), Int.toNat_natCast, forO, hin, ec]
    simp only [stepW, List.map_append, tie_sh, if_true, Nat.zero_add]
theorem web_of_eq (h : T "_law_web_of" = some c__law_web_of) : ∀ (n k : Nat) (d : D), n ≤ 31 → PN n d → cntN n d ≤ 1000 → callT T (k + n) "_law_web_of" [d] = .ok (.tuple [.int (cntN n d : Nat), .list ((tiesN n d).map (tieD 0))])
  | 0, k, d, _, hd, _ => hd.elim
  | n + 1, k, d, hn, hd, hc => by
    show callT T (k + n + 1) _ _ = _
    have hg : goodD 64 d := hd.good.mono (by omega)
    rw [L3.callT_eq _ h rfl]
    rcases hd with rfl | ⟨ac, ts, rfl, hl, hp⟩
    · simp only [bind_ok, bind_stuck, bind_ite, toO_ok, toO_exc, toO_ite, nox_ok, nox_ite, then_nx, then_rt, then_ex, then_st, then_ite, toR_rt, toR_nx, toR_ex, toR_ite, iteR_and, iteR_or, iteR_b, iteO_b, notD_b, getV0, getV1, getVs, ev_cn, ev_var, ev_tup, ev_lst, ev_dct0, ev_u, ev_b, ev_and, ev_or, ev_not, ev_chain, ev_ite, ev_sl, ev_isi, ev_call, ev_lc, evs_nil, evs_cons, itemsR_l, itemsR_t, its_seq, its_rng1, its_rng2, ev_rg, rgs_1, rgs_2, its_enum, its_zip, its_rev, enumR_l, enumR_t, revR_l, revR_t, rgD_t, rgD_l, lcC_t, lcD, ex_skip, ex_seq, ex_asg, ex_if, ex_ret, ex_retN, ex_retV, ex_expr, ex_raise, ex_for, ex_while, ex_app, ex_ins, ex_ext, ex_aug, retO_f, add_i, sub_i, fdiv_i, mod_i, eq_i, ne_i, eq_b, ne_b, lt_i, le_i, gt_i, ge_i, is_b, min_i, max_i, idx_t, idx_l, atR0, atR1, len_t, len_l, tup_l, tup_t, lst_l, lst_t, neg_i, ix_i, rev_t, rev_l, sl_t, sl_l, partR_n, partR_i, isi_none_int, isi_none_bool, isi_none_str, isi_none_tuple, isi_none_list, isi_none_dict, isi_bool_int, isi_bool_bool, isi_bool_str, isi_bool_tuple, isi_bool_list, isi_bool_dict, isi_int_int, isi_int_bool, isi_int_str, isi_int_tuple, isi_int_list, isi_int_dict, isi_str_int, isi_str_bool, isi_str_str, isi_str_tuple, isi_str_list, isi_str_dict, isi_list_int, isi_list_bool, isi_list_str, isi_list_tuple, isi_list_list, isi_list_dict, isi_tuple_int, isi_tuple_bool, isi_tuple_str, isi_tuple_tuple, isi_tuple_list, isi_tuple_dict, isi_dict_int, isi_dict_bool, isi_dict_str, isi_dict_tuple, isi_dict_list, isi_dict_dict, start_cons, start_nil1, start_nil0, Bool.not_true, Bool.not_false, decide_eq_true_eq, Bool.not_eq_true', decide_eq_false_iff_not, Bool.false_eq_true, if_false, if_true, reduceIte, List.nil_append, List.append_nil, List.cons_append, asgO_one, asgO_tup, env1_id, decide_true, lk0, lk1, lks, lkI, lkI0, freeze, freeze1, lockL, lock1, unlockL, unlock1, bindT, bindTs, fresh, ownable, wipeE, List.getElem?_cons_zero, List.getElem?_cons_succ, List.set_cons_zero, List.set_cons_succ, List.length_cons, List.length_nil, Bool.false_and, Bool.true_and, Bool.and_true, Bool.and_false, Nat.reduceAdd, Nat.reduceLT, Nat.reduceLeDiff, Option.some.injEq, reduceCtorEq, c__law_web_of, eq_oneN hg, tupR, lstR, lim]
      rfl
    · have hcnt : cntN (n + 1) (nodeD ac ts) = (ts.map (cntN n)).sum := rfl
      have hti : tiesN (n + 1) (nodeD ac ts) = (ts.foldl (stepW (cntN n) (tiesN n) ac) (0, [])).2 := by
        show (ts.foldl (stepW (cntN n) (tiesN n) (isAc _)) (0, [])).2 = _
        rw [isAc_node]
      rw [hcnt] at hc
      rw [hti, hcnt]
      obtain ⟨e, he, o3, o4, o5, o6, rfl⟩ := forL_nx (f := turn ⟨callT T (k + n), frOf T⟩ false (.one 3) c__law_web_of_b1) (fun i e => ∃ o3 o4 o5 o6, e = [some (nodeD ac ts, .fro), some (.int (((ts.take i).foldl (stepW (cntN n) (tiesN n) ac) (0, [])).1 : Nat), .fro), some (.list (((ts.take i).foldl (stepW (cntN n) (tiesN n) ac) (0, [])).2.map (tieD 0)), .own), o3, o4, o5, o6, none, none, none])
        (ds := ts) (env := [some (nodeD ac ts, .fro), some (.int 0, .fro), some (.list [], .own), none, none, none, none, none, none, none]) ⟨none, none, none, none, rfl⟩ (by
          rintro i t e hd ⟨o3, o4, o5, o6, rfl⟩
          have hs := fold_cnt (cntN n) (tiesN n) ac (ts.take i) (0, [])
          have hle := take_sum (cntN n) hd
          obtain ⟨o6', e'⟩ := web_turn (fun t ht hc => web_of_eq h n k t (by omega) ht hc) ac ts t (hp t (List.mem_of_getElem? hd)) ((ts.take i).foldl (stepW (cntN n) (tiesN n) ac) (0, [])) (by rw [hs]; simp only [Nat.zero_add]; omega)
            (fold_len _ _ _ (fun t => ties_len n t) _ _ (Nat.le_refl _)) o3 o4 o5 o6
          rw [← fold_take (stepW (cntN n) (tiesN n) ac) (0, []) hd] at e'
          exact ⟨_, e', _, _, _, _, rfl⟩)
      rw [List.take_length] at he
      have hlp : nodeD ac ts = .tuple [.str (if ac then sAc else sBe), .tuple ts] := rfl
      have hne : (PyData.eqv (nodeD ac ts) oneD = true) = False := eq_false (by rw [hlp, eqv_oneN]; exact Bool.false_ne_true)
      have hs := fold_cnt (cntN n) (tiesN n) ac ts (0, [])
      have hix : op2 .idx (nodeD ac ts) (.int 1) = .ok (.tuple ts) := by rw [hlp]; simp only [bind_ok, bind_stuck, bind_ite, toO_ok, toO_exc, toO_ite, nox_ok, nox_ite, then_nx, then_rt, then_ex, then_st, then_ite, toR_rt, toR_nx, toR_ex, toR_ite, iteR_and, iteR_or, iteR_b, iteO_b, notD_b, getV0, getV1, getVs, ev_cn, ev_var, ev_tup, ev_lst, ev_dct0, ev_u, ev_b, ev_and, ev_or, ev_not, ev_chain, ev_ite, ev_sl, ev_isi, ev_call, ev_lc, evs_nil, evs_cons, itemsR_l, itemsR_t, its_seq, its_rng1, its_rng2, ev_rg, rgs_1, rgs_2, its_enum, its_zip, its_rev, enumR_l, enumR_t, revR_l, revR_t, rgD_t, rgD_l, lcC_t, lcD, ex_skip, ex_seq, ex_asg, ex_if, ex_ret, ex_retN, ex_retV, ex_expr, ex_raise, ex_for, ex_while, ex_app, ex_ins, ex_ext, ex_aug, retO_f, add_i, sub_i, fdiv_i, mod_i, eq_i, ne_i, eq_b, ne_b, lt_i, le_i, gt_i, ge_i, is_b, min_i, max_i, idx_t, idx_l, atR0, atR1, len_t, len_l, tup_l, tup_t, lst_l, lst_t, neg_i, ix_i, rev_t, rev_l, sl_t, sl_l, partR_n, partR_i, isi_none_int, isi_none_bool, isi_none_str, isi_none_tuple, isi_none_list, isi_none_dict, isi_bool_int, isi_bool_bool, isi_bool_str, isi_bool_tuple, isi_bool_list, isi_bool_dict, isi_int_int, isi_int_bool, isi_int_str, isi_int_tuple, isi_int_list, isi_int_dict, isi_str_int, isi_str_bool, isi_str_str, isi_str_tuple, isi_str_list, isi_str_dict, isi_list_int, isi_list_bool, isi_list_str, isi_list_tuple, isi_list_list, isi_list_dict, isi_tuple_int, isi_tuple_bool, isi_tuple_str, isi_tuple_tuple, isi_tuple_list, isi_tuple_dict, isi_dict_int, isi_dict_bool, isi_dict_str, isi_dict_tuple, isi_dict_list, isi_dict_dict, start_cons, start_nil1, start_nil0, Bool.not_true, Bool.not_false, decide_eq_true_eq, Bool.not_eq_true', decide_eq_false_iff_not, Bool.false_eq_true, if_false, if_true, reduceIte, List.nil_append, List.append_nil, List.cons_append, asgO_one, asgO_tup, env1_id, decide_true, lk0, lk1, lks, lkI, lkI0, freeze, freeze1, lockL, lock1, unlockL, unlock1, bindT, bindTs, fresh, ownable, wipeE, List.getElem?_cons_zero, List.getElem?_cons_succ, List.set_cons_zero, List.set_cons_succ, List.length_cons, List.length_nil, Bool.false_and, Bool.true_and, Bool.and_true, Bool.and_false, Nat.reduceAdd, Nat.reduceLT, Nat.reduceLeDiff, Option.some.injEq, reduceCtorEq]
      simp only [bind_ok, bind_stuck, bind_ite, toO_ok, toO_exc, toO_ite, nox_ok, nox_ite, then_nx, then_rt, then_ex, then_st, then_ite, toR_rt, toR_nx, toR_ex, toR_ite, iteR_and, iteR_or, iteR_b, iteO_b, notD_b, getV0, getV1, getVs, ev_cn, ev_var, ev_tup, ev_lst, ev_dct0, ev_u, ev_b, ev_and, ev_or, ev_not, ev_chain, ev_ite, ev_sl, ev_isi, ev_call, ev_lc, evs_nil, evs_cons, itemsR_l, itemsR_t, its_seq, its_rng1, its_rng2, ev_rg, rgs_1, rgs_2, its_enum, its_zip, its_rev, enumR_l, enumR_t, revR_l, revR_t, rgD_t, rgD_l, lcC_t, lcD, ex_skip, ex_seq, ex_asg, ex_if, ex_ret, ex_retN, ex_retV, ex_expr, ex_raise, ex_for, ex_while, ex_app, ex_ins, ex_ext, ex_aug, retO_f, add_i, sub_i, fdiv_i, mod_i, eq_i, ne_i, eq_b, ne_b, lt_i, le_i, gt_i, ge_i, is_b, min_i, max_i, idx_t, idx_l, atR0, atR1, len_t, len_l, tup_l, tup_t, lst_l, lst_t, neg_i, ix_i, rev_t, rev_l, sl_t, sl_l, partR_n, partR_i, isi_none_int, isi_none_bool, isi_none_str, isi_none_tuple, isi_none_list, isi_none_dict, isi_bool_int, isi_bool_bool, isi_bool_str, isi_bool_tuple, isi_bool_list, isi_bool_dict, isi_int_int, isi_int_bool, isi_int_str, isi_int_tuple, isi_int_list, isi_int_dict, isi_str_int, isi_str_bool, isi_str_str, isi_str_tuple, isi_str_list, isi_str_dict, isi_list_int, isi_list_bool, isi_list_str, isi_list_tuple, isi_list_list, isi_list_dict, isi_tuple_int, isi_tuple_bool, isi_tuple_str, isi_tuple_tuple, isi_tuple_list, isi_tuple_dict, isi_dict_int, isi_dict_bool, isi_dict_str, isi_dict_tuple, isi_dict_list, isi_dict_dict, start_cons, start_nil1, start_nil0, Bool.not_true, Bool.not_false, decide_eq_true_eq, Bool.not_eq_true', decide_eq_false_iff_not, Bool.false_eq_true, if_false, if_true, reduceIte, List.nil_append, List.append_nil, List.cons_append, asgO_one, asgO_tup, env1_id, decide_true, lk0, lk1, lks, lkI, lkI0, freeze, freeze1, lockL, lock1, unlockL, unlock1, bindT, bindTs, fresh, ownable, wipeE, List.getElem?_cons_zero, List.getElem?_cons_succ, List.set_cons_zero, List.set_cons_succ, List.length_cons, List.length_nil, Bool.false_and, Bool.true_and, Bool.and_true, Bool.and_false, Nat.reduceAdd, Nat.reduceLT, Nat.reduceLeDiff, Option.some.injEq, reduceCtorEq, c__law_web_of, eq_oneN hg, hne, hix, tupR, lstR, lim, forO, he]
      rw [hs]
      simp only [Nat.zero_add]
end
end L3

set_option Elab.async false
set_option linter.all false
set_option maxRecDepth 100000
set_option maxHeartbeats 4000000
/-! the drawn plan is a plan -/
namespace L3
open PySem
theorem words_node {r : Int} (h0 : 0 ≤ r) (h1 : r < 2) : ∃ ac : Bool, atR [.str sBe, .str sAc] r = .ok (.str (if ac then sAc else sBe)) := by
  have : r = 0 ∨ r = 1 := by omega
  rcases this with rfl | rfl
  · exact ⟨false, atR0 _ _⟩
  · exact ⟨true, atR1 _ _ _⟩
/-- the list in three pieces -/
theorem cut3 (xs : List D) (a b : Nat) (h : a ≤ b) : cutD xs none (some (a : Int)) = xs.take a ∧ cutD xs (some (a : Int)) (some (b : Int)) = (xs.drop a).take (b - a) ∧ cutD xs (some (b : Int)) none = xs.drop b := by
  unfold cutD
  simp only [HT.sIx_nat, HT.sIx_none]
  refine ⟨?_, ?_, ?_⟩
  · simp only [List.drop_zero, Nat.sub_zero]
    rw [← List.take_eq_take_min]
  · by_cases h1 : a ≤ xs.length
    · rw [Nat.min_eq_left h1]
      by_cases h2 : b ≤ xs.length
      · rw [Nat.min_eq_left h2]
      · rw [Nat.min_eq_right (by omega), List.take_of_length_le (by rw [List.length_drop]; omega), List.take_of_length_le (by rw [List.length_drop]; omega)]
    · rw [Nat.min_eq_right (by omega : xs.length ≤ a), List.drop_of_length_le (Nat.le_refl _), List.drop_of_length_le (by omega)]
      simp
  · by_cases h2 : b ≤ xs.length
    · rw [Nat.min_eq_left h2, List.take_of_length_le (by rw [List.length_drop]; exact Nat.le_refl _)]
    · rw [Nat.min_eq_right (by omega), List.drop_of_length_le (Nat.le_refl _), List.drop_of_length_le (by omega)]
      simp
/-- all together have so many ones -/
def sumC (n : Nat) (xs : List D) : Nat := (xs.map (cntN n)).sum
theorem sumC_app (n : Nat) (xs ys : List D) : sumC n (xs ++ ys) = sumC n xs + sumC n ys := by unfold sumC; simp
theorem sumC_up {n : Nat} {xs : List D} (h : ∀ t, t ∈ xs → PN n t) : sumC (n + 1) xs = sumC n xs := by
  unfold sumC
  congr 1
  exact List.map_congr_left fun t ht => cnt_up (h t ht) (Nat.le_succ n)
theorem sumC_node (n : Nat) (ac : Bool) (ts : List D) : sumC (n + 1) [nodeD ac ts] = sumC n ts := by
  unfold sumC
  show ((ts.map (cntN n)).sum) + 0 = _
  rw [Nat.add_zero]
theorem plan_turnN {T : Tab} (k : Nat) (h : T "_law_draw" = some c__law_draw) (c a : Int) (ha : 0 ≤ a) (ha2 : a ≤ 10000) (m : D) (j N : Nat) (hj : j ≤ 30) (hN : N ≤ 30) (xs : List D) (hx : xs ≠ []) (hp : ∀ t, t ∈ xs → PN (j + 1) t) (hs : sumC (j + 1) xs = N) (o4 o5 o6 o7 : Option (D × Fl)) :
    ∃ xs' o5' o6' o7', turn ⟨callT T (k + 1), frOf T⟩ false (.one 4) c__law_plan_b0 (.int (0 + (j : Int))) [some (.int c, .fro), some (.int a, .fro), some (m, .fro), some (.list xs, .own), o4, o5, o6, o7] =
      .nx [some (.int c, .fro), some (.int a, .fro), some (m, .fro), some (.list xs', .own), some (.int (0 + (j : Int)), .fro), o5', o6', o7'] ∧ xs' ≠ [] ∧ (∀ t, t ∈ xs' → PN (j + 2) t) ∧ sumC (j + 2) xs' = N := by
  have hl : xs.length ≤ 30 := by
    refine Nat.le_trans ?_ (Nat.le_trans (Nat.le_of_eq hs) hN)
    clear hx hs
    unfold sumC
    induction xs with
    | nil => simp
    | cons x xs ih =>
      have h1 := cnt_pos (hp x List.mem_cons_self)
      have h2 := ih fun t ht => hp t (List.mem_cons_of_mem _ ht)
      simp only [List.length_cons, List.map_cons, List.sum_cons]
      omega
  unfold turn
  have m3 : op2 .mul (.int 3) (.int (0 + (j : Int))) = .ok (.int (3 * (0 + (j : Int)))) := mul_l _ _ (by decide) (by decide)
  obtain ⟨r1, r10, r11, e1⟩ := draw_eq k h c (a + 3 * (0 + (j : Int))) 3 (by omega) (by omega) (by omega) (by omega)
  obtain ⟨r2, r20, r21, e2⟩ := draw_eq k h c (a + 3 * (0 + (j : Int)) + 1) (if (xs.length : Int) - (2 + r1) + 1 > 1 then (xs.length : Int) - (2 + r1) + 1 else 1) (by omega) (by omega) (by split <;> omega) (by split <;> omega)
  obtain ⟨r3, r30, r31, e3⟩ := draw_eq k h c (a + 3 * (0 + (j : Int)) + 2) 2 (by omega) (by omega) (by omega) (by omega)
  obtain ⟨ac, es⟩ := words_node r30 r31
  have c1 : (cutD xs none (some r2)).length ≤ 54 := Nat.le_trans (cut_len _ _ _) (by omega)
  have c3 : (cutD xs (some (r2 + (2 + r1))) none).length ≤ 54 := Nat.le_trans (cut_len _ _ _) (by omega)
  have f1 : ∀ d, op2 .add (.list (cutD xs none (some r2))) (.list [d]) = .ok (.list (cutD xs none (some r2) ++ [d])) := fun d => add_l _ _ (by simp [lim]; omega)
  have f2 : ∀ d, op2 .add (.list (cutD xs none (some r2) ++ [d])) (.list (cutD xs (some (r2 + (2 + r1))) none)) = .ok (.list (cutD xs none (some r2) ++ [d] ++ cutD xs (some (r2 + (2 + r1))) none)) := fun d => add_l _ _ (by simp [lim]; omega)
  simp only [bind_ok, bind_stuck, bind_ite, toO_ok, toO_exc, toO_ite, nox_ok, nox_ite, then_nx, then_rt, then_ex, then_st, then_ite, toR_rt, toR_nx, toR_ex, toR_ite, iteR_and, iteR_or, iteR_b, iteO_b, notD_b, getV0, getV1, getVs, ev_cn, ev_var, ev_tup, ev_lst, ev_dct0, ev_u, ev_b, ev_and, ev_or, ev_not, ev_chain, ev_ite, ev_sl, ev_isi, ev_call, ev_lc, evs_nil, evs_cons, itemsR_l, itemsR_t, its_seq, its_rng1, its_rng2, ev_rg, rgs_1, rgs_2, its_enum, its_zip, its_rev, enumR_l, enumR_t, revR_l, revR_t, rgD_t, rgD_l, lcC_t, lcD, ex_skip, ex_seq, ex_asg, ex_if, ex_ret, ex_retN, ex_retV, ex_expr, ex_raise, ex_for, ex_while, ex_app, ex_ins, ex_ext, ex_aug, retO_f, add_i, sub_i, fdiv_i, mod_i, eq_i, ne_i, eq_b, ne_b, lt_i, le_i, gt_i, ge_i, is_b, min_i, max_i, idx_t, idx_l, atR0, atR1, len_t, len_l, tup_l, tup_t, lst_l, lst_t, neg_i, ix_i, rev_t, rev_l, sl_t, sl_l, partR_n, partR_i, isi_none_int, isi_none_bool, isi_none_str, isi_none_tuple, isi_none_list, isi_none_dict, isi_bool_int, isi_bool_bool, isi_bool_str, isi_bool_tuple, isi_bool_list, isi_bool_dict, isi_int_int, isi_int_bool, isi_int_str, isi_int_tuple, isi_int_list, isi_int_dict, isi_str_int, isi_str_bool, isi_str_str, isi_str_tuple, isi_str_list, isi_str_dict, isi_list_int, isi_list_bool, isi_list_str, isi_list_tuple, isi_list_list, isi_list_dict, isi_tuple_int, isi_tuple_bool, isi_tuple_str, isi_tuple_tuple, isi_tuple_list, isi_tuple_dict, isi_dict_int, isi_dict_bool, isi_dict_str, isi_dict_tuple, isi_dict_list, isi_dict_dict, start_cons, start_nil1, start_nil0, Bool.not_true, Bool.not_false, decide_eq_true_eq, Bool.not_eq_true', decide_eq_false_iff_not, Bool.false_eq_true, if_false, if_true, reduceIte, List.nil_append, List.append_nil, List.cons_append, asgO_one, asgO_tup, env1_id, decide_true, lk0, lk1, lks, lkI, lkI0, freeze, freeze1, lockL, lock1, unlockL, unlock1, bindT, bindTs, fresh, ownable, wipeE, List.getElem?_cons_zero, List.getElem?_cons_succ, List.set_cons_zero, List.set_cons_succ, List.length_cons, List.length_nil, Bool.false_and, Bool.true_and, Bool.and_true, Bool.and_false, Nat.reduceAdd, Nat.reduceLT, Nat.reduceLeDiff, Option.some.injEq, reduceCtorEq, c__law_plan_b0, m3, e1, e2, e3, es, lstR, tupR, lim]
  by_cases hlen : 1 < (xs.length : Int)
  · rw [if_pos hlen, f1]
    simp only [bind_ok, bind_stuck, bind_ite, toO_ok, toO_exc, toO_ite, nox_ok, nox_ite, then_nx, then_rt, then_ex, then_st, then_ite, toR_rt, toR_nx, toR_ex, toR_ite, iteR_and, iteR_or, iteR_b, iteO_b, notD_b, getV0, getV1, getVs, ev_cn, ev_var, ev_tup, ev_lst, ev_dct0, ev_u, ev_b, ev_and, ev_or, ev_not, ev_chain, ev_ite, ev_sl, ev_isi, ev_call, ev_lc, evs_nil, evs_cons, itemsR_l, itemsR_t, its_seq, its_rng1, its_rng2, ev_rg, rgs_1, rgs_2, its_enum, its_zip, its_rev, enumR_l, enumR_t, revR_l, revR_t, rgD_t, rgD_l, lcC_t, lcD, ex_skip, ex_seq, ex_asg, ex_if, ex_ret, ex_retN, ex_retV, ex_expr, ex_raise, ex_for, ex_while, ex_app, ex_ins, ex_ext, ex_aug, retO_f, add_i, sub_i, fdiv_i, mod_i, eq_i, ne_i, eq_b, ne_b, lt_i, le_i, gt_i, ge_i, is_b, min_i, max_i, idx_t, idx_l, atR0, atR1, len_t, len_l, tup_l, tup_t, lst_l, lst_t, neg_i, ix_i, rev_t, rev_l, sl_t, sl_l, partR_n, partR_i, isi_none_int, isi_none_bool, isi_none_str, isi_none_tuple, isi_none_list, isi_none_dict, isi_bool_int, isi_bool_bool, isi_bool_str, isi_bool_tuple, isi_bool_list, isi_bool_dict, isi_int_int, isi_int_bool, isi_int_str, isi_int_tuple, isi_int_list, isi_int_dict, isi_str_int, isi_str_bool, isi_str_str, isi_str_tuple, isi_str_list, isi_str_dict, isi_list_int, isi_list_bool, isi_list_str, isi_list_tuple, isi_list_list, isi_list_dict, isi_tuple_int, isi_tuple_bool, isi_tuple_str, isi_tuple_tuple, isi_tuple_list, isi_tuple_dict, isi_dict_int, isi_dict_bool, isi_dict_str, isi_dict_tuple, isi_dict_list, isi_dict_dict, start_cons, start_nil1, start_nil0, Bool.not_true, Bool.not_false, decide_eq_true_eq, Bool.not_eq_true', decide_eq_false_iff_not, Bool.false_eq_true, if_false, if_true, reduceIte, List.nil_append, List.append_nil, List.cons_append, asgO_one, asgO_tup, env1_id, decide_true, lk0, lk1, lks, lkI, lkI0, freeze, freeze1, lockL, lock1, unlockL, unlock1, bindT, bindTs, fresh, ownable, wipeE, List.getElem?_cons_zero, List.getElem?_cons_succ, List.set_cons_zero, List.set_cons_succ, List.length_cons, List.length_nil, Bool.false_and, Bool.true_and, Bool.and_true, Bool.and_false, Nat.reduceAdd, Nat.reduceLT, Nat.reduceLeDiff, Option.some.injEq, reduceCtorEq]
    rw [f2]
    simp only [bind_ok, bind_stuck, bind_ite, toO_ok, toO_exc, toO_ite, nox_ok, nox_ite, then_nx, then_rt, then_ex, then_st, then_ite, toR_rt, toR_nx, toR_ex, toR_ite, iteR_and, iteR_or, iteR_b, iteO_b, notD_b, getV0, getV1, getVs, ev_cn, ev_var, ev_tup, ev_lst, ev_dct0, ev_u, ev_b, ev_and, ev_or, ev_not, ev_chain, ev_ite, ev_sl, ev_isi, ev_call, ev_lc, evs_nil, evs_cons, itemsR_l, itemsR_t, its_seq, its_rng1, its_rng2, ev_rg, rgs_1, rgs_2, its_enum, its_zip, its_rev, enumR_l, enumR_t, revR_l, revR_t, rgD_t, rgD_l, lcC_t, lcD, ex_skip, ex_seq, ex_asg, ex_if, ex_ret, ex_retN, ex_retV, ex_expr, ex_raise, ex_for, ex_while, ex_app, ex_ins, ex_ext, ex_aug, retO_f, add_i, sub_i, fdiv_i, mod_i, eq_i, ne_i, eq_b, ne_b, lt_i, le_i, gt_i, ge_i, is_b, min_i, max_i, idx_t, idx_l, atR0, atR1, len_t, len_l, tup_l, tup_t, lst_l, lst_t, neg_i, ix_i, rev_t, rev_l, sl_t, sl_l, partR_n, partR_i, isi_none_int, isi_none_bool, isi_none_str, isi_none_tuple, isi_none_list, isi_none_dict, isi_bool_int, isi_bool_bool, isi_bool_str, isi_bool_tuple, isi_bool_list, isi_bool_dict, isi_int_int, isi_int_bool, isi_int_str, isi_int_tuple, isi_int_list, isi_int_dict, isi_str_int, isi_str_bool, isi_str_str, isi_str_tuple, isi_str_list, isi_str_dict, isi_list_int, isi_list_bool, isi_list_str, isi_list_tuple, isi_list_list, isi_list_dict, isi_tuple_int, isi_tuple_bool, isi_tuple_str, isi_tuple_tuple, isi_tuple_list, isi_tuple_dict, isi_dict_int, isi_dict_bool, isi_dict_str, isi_dict_tuple, isi_dict_list, isi_dict_dict, start_cons, start_nil1, start_nil0, Bool.not_true, Bool.not_false, decide_eq_true_eq, Bool.not_eq_true', decide_eq_false_iff_not, Bool.false_eq_true, if_false, if_true, reduceIte, List.nil_append, List.append_nil, List.cons_append, asgO_one, asgO_tup, env1_id, decide_true, lk0, lk1, lks, lkI, lkI0, freeze, freeze1, lockL, lock1, unlockL, unlock1, bindT, bindTs, fresh, ownable, wipeE, List.getElem?_cons_zero, List.getElem?_cons_succ, List.set_cons_zero, List.set_cons_succ, List.length_cons, List.length_nil, Bool.false_and, Bool.true_and, Bool.and_true, Bool.and_false, Nat.reduceAdd, Nat.reduceLT, Nat.reduceLeDiff, Option.some.injEq, reduceCtorEq]
    obtain ⟨p, rfl⟩ := Int.eq_ofNat_of_zero_le r20
    obtain ⟨w, hw⟩ := Int.eq_ofNat_of_zero_le (show 0 ≤ (p : Int) + (2 + r1) by omega)
    rw [hw]
    obtain ⟨g1, g2, g3⟩ := cut3 xs p w (by omega)
    rw [g1, g2, g3]
    have hlw : 2 ≤ ((xs.drop p).take (w - p)).length := by
      rw [List.length_take, List.length_drop]
      split at r21 <;> omega
    have hmid : ∀ t, t ∈ (xs.drop p).take (w - p) → PN (j + 1) t := fun t ht => hp t (List.mem_of_mem_drop (List.mem_of_mem_take ht))
    refine ⟨_, _, _, _, rfl, by simp, fun t ht => ?_, ?_⟩
    · rcases List.mem_append.mp ht with ht | ht
      · rcases List.mem_append.mp ht with ht | ht
        · exact (hp t (List.mem_of_mem_take ht)).up
        · rw [List.mem_singleton] at ht
          subst ht
          exact .inr ⟨ac, _, rfl, hlw, hmid⟩
      · exact (hp t (List.mem_of_mem_drop ht)).up
    · have hnode : sumC (j + 2) [PyData.tuple [.str (if ac then sAc else sBe), .tuple ((xs.drop p).take (w - p))]] = sumC (j + 1) ((xs.drop p).take (w - p)) := sumC_node (j + 1) ac _
      rw [sumC_app, sumC_app, hnode, sumC_up fun t ht => hp t (List.mem_of_mem_take ht), sumC_up fun t ht => hp t (List.mem_of_mem_drop ht), ← sumC_app, ← sumC_app]
      have e4 : xs.take p ++ (xs.drop p).take (w - p) ++ xs.drop w = xs := by
        have : xs.drop w = (xs.drop p).drop (w - p) := by
          rw [List.drop_drop]
          congr 1
          omega
        rw [this, List.append_assoc, List.take_append_drop, List.take_append_drop]
      rw [e4]
      exact hs
  · rw [if_neg hlen]
    exact ⟨xs, _, _, _, rfl, hx, fun t ht => (hp t ht).up, by rw [sumC_up hp]; exact hs⟩
/-- a drawn plan of m ones at most -/
theorem plan_eqN {T : Tab} (k : Nat) (h : T "_law_draw" = some c__law_draw) (h2 : T "_law_plan" = some c__law_plan) (c a m : Int) (ha : 0 ≤ a) (ha2 : a ≤ 10000) (hm : 1 ≤ m) (hm2 : m ≤ 22) : ∃ d, PN 23 d ∧ ((cntN 23 d : Nat) : Int) ≤ m ∧ callT T (k + 2) "_law_plan" [.int c, .int a, .int m] = .ok d := by
  rw [L3.callT_eq _ h2 rfl]
  have er : op2 .rep (.list [.tuple [.str (Str.ofString "one")]]) (.int m) = .ok (.list (List.replicate m.toNat [oneD]).flatten) := rep_l (by omega) (by omega) (by decide)
  have efl : (List.replicate m.toNat [oneD]).flatten = List.replicate m.toNat oneD := by simp
  rw [efl] at er
  simp only [bind_ok, bind_stuck, bind_ite, toO_ok, toO_exc, toO_ite, nox_ok, nox_ite, then_nx, then_rt, then_ex, then_st, then_ite, toR_rt, toR_nx, toR_ex, toR_ite, iteR_and, iteR_or, iteR_b, iteO_b, notD_b, getV0, getV1, getVs, ev_cn, ev_var, ev_tup, ev_lst, ev_dct0, ev_u, ev_b, ev_and, ev_or, ev_not, ev_chain, ev_ite, ev_sl, ev_isi, ev_call, ev_lc, evs_nil, evs_cons, itemsR_l, itemsR_t, its_seq, its_rng1, its_rng2, ev_rg, rgs_1, rgs_2, its_enum, its_zip, its_rev, enumR_l, enumR_t, revR_l, revR_t, rgD_t, rgD_l, lcC_t, lcD, ex_skip, ex_seq, ex_asg, ex_if, ex_ret, ex_retN, ex_retV, ex_expr, ex_raise, ex_for, ex_while, ex_app, ex_ins, ex_ext, ex_aug, retO_f, add_i, sub_i, fdiv_i, mod_i, eq_i, ne_i, eq_b, ne_b, lt_i, le_i, gt_i, ge_i, is_b, min_i, max_i, idx_t, idx_l, atR0, atR1, len_t, len_l, tup_l, tup_t, lst_l, lst_t, neg_i, ix_i, rev_t, rev_l, sl_t, sl_l, partR_n, partR_i, isi_none_int, isi_none_bool, isi_none_str, isi_none_tuple, isi_none_list, isi_none_dict, isi_bool_int, isi_bool_bool, isi_bool_str, isi_bool_tuple, isi_bool_list, isi_bool_dict, isi_int_int, isi_int_bool, isi_int_str, isi_int_tuple, isi_int_list, isi_int_dict, isi_str_int, isi_str_bool, isi_str_str, isi_str_tuple, isi_str_list, isi_str_dict, isi_list_int, isi_list_bool, isi_list_str, isi_list_tuple, isi_list_list, isi_list_dict, isi_tuple_int, isi_tuple_bool, isi_tuple_str, isi_tuple_tuple, isi_tuple_list, isi_tuple_dict, isi_dict_int, isi_dict_bool, isi_dict_str, isi_dict_tuple, isi_dict_list, isi_dict_dict, start_cons, start_nil1, start_nil0, Bool.not_true, Bool.not_false, decide_eq_true_eq, Bool.not_eq_true', decide_eq_false_iff_not, Bool.false_eq_true, if_false, if_true, reduceIte, List.nil_append, List.append_nil, List.cons_append, asgO_one, asgO_tup, env1_id, decide_true, lk0, lk1, lks, lkI, lkI0, freeze, freeze1, lockL, lock1, unlockL, unlock1, bindT, bindTs, fresh, ownable, wipeE, List.getElem?_cons_zero, List.getElem?_cons_succ, List.set_cons_zero, List.set_cons_succ, List.length_cons, List.length_nil, Bool.false_and, Bool.true_and, Bool.and_true, Bool.and_false, Nat.reduceAdd, Nat.reduceLT, Nat.reduceLeDiff, Option.some.injEq, reduceCtorEq, c__law_plan, lstR, tupR, lim, er, rng1_ok (show -1000000 ≤ m by omega) (show m ≤ 16777216 by omega)]
  unfold forO
  simp only [bind_ok, bind_stuck, bind_ite, toO_ok, toO_exc, toO_ite, nox_ok, nox_ite, then_nx, then_rt, then_ex, then_st, then_ite, toR_rt, toR_nx, toR_ex, toR_ite, iteR_and, iteR_or, iteR_b, iteO_b, notD_b, getV0, getV1, getVs, ev_cn, ev_var, ev_tup, ev_lst, ev_dct0, ev_u, ev_b, ev_and, ev_or, ev_not, ev_chain, ev_ite, ev_sl, ev_isi, ev_call, ev_lc, evs_nil, evs_cons, itemsR_l, itemsR_t, its_seq, its_rng1, its_rng2, ev_rg, rgs_1, rgs_2, its_enum, its_zip, its_rev, enumR_l, enumR_t, revR_l, revR_t, rgD_t, rgD_l, lcC_t, lcD, ex_skip, ex_seq, ex_asg, ex_if, ex_ret, ex_retN, ex_retV, ex_expr, ex_raise, ex_for, ex_while, ex_app, ex_ins, ex_ext, ex_aug, retO_f, add_i, sub_i, fdiv_i, mod_i, eq_i, ne_i, eq_b, ne_b, lt_i, le_i, gt_i, ge_i, is_b, min_i, max_i, idx_t, idx_l, atR0, atR1, len_t, len_l, tup_l, tup_t, lst_l, lst_t, neg_i, ix_i, rev_t, rev_l, sl_t, sl_l, partR_n, partR_i, isi_none_int, isi_none_bool, isi_none_str, isi_none_tuple, isi_none_list, isi_none_dict, isi_bool_int, isi_bool_bool, isi_bool_str, isi_bool_tuple, isi_bool_list, isi_bool_dict, isi_int_int, isi_int_bool, isi_int_str, isi_int_tuple, isi_int_list, isi_int_dict, isi_str_int, isi_str_bool, isi_str_str, isi_str_tuple, isi_str_list, isi_str_dict, isi_list_int, isi_list_bool, isi_list_str, isi_list_tuple, isi_list_list, isi_list_dict, isi_tuple_int, isi_tuple_bool, isi_tuple_str, isi_tuple_tuple, isi_tuple_list, isi_tuple_dict, isi_dict_int, isi_dict_bool, isi_dict_str, isi_dict_tuple, isi_dict_list, isi_dict_dict, start_cons, start_nil1, start_nil0, Bool.not_true, Bool.not_false, decide_eq_true_eq, Bool.not_eq_true', decide_eq_false_iff_not, Bool.false_eq_true, if_false, if_true, reduceIte, List.nil_append, List.append_nil, List.cons_append, asgO_one, asgO_tup, env1_id, decide_true, lk0, lk1, lks, lkI, lkI0, freeze, freeze1, lockL, lock1, unlockL, unlock1, bindT, bindTs, fresh, ownable, wipeE, List.getElem?_cons_zero, List.getElem?_cons_succ, List.set_cons_zero, List.set_cons_succ, List.length_cons, List.length_nil, Bool.false_and, Bool.true_and, Bool.and_true, Bool.and_false, Nat.reduceAdd, Nat.reduceLT, Nat.reduceLeDiff, Option.some.injEq, reduceCtorEq]
  have hn : m.toNat ≤ 22 ∧ 1 ≤ m.toNat ∧ ((m.toNat : Nat) : Int) = m := by omega
  generalize m.toNat = n at hn ⊢
  obtain ⟨e, he, xs, o4, o5, o6, o7, rfl, hx, hp, hs⟩ := forL_nx (f := turn ⟨callT T (k + 1), frOf T⟩ false (.one 4) c__law_plan_b0) (fun i e => ∃ (xs : List D) (o4 o5 o6 o7 : Option (D × Fl)), e = [some (.int c, .fro), some (.int a, .fro), some (.int m, .fro), some (.list xs, .own), o4, o5, o6, o7] ∧ xs ≠ [] ∧ (∀ t, t ∈ xs → PN (i + 1) t) ∧ sumC (i + 1) xs = n)
    (ds := rngD 0 n) (env := [some (.int c, .fro), some (.int a, .fro), some (.int m, .fro), some (.list (List.replicate n oneD), .own), none, none, none, none])
    ⟨_, _, _, _, _, rfl, by simp; omega, fun t ht => (by rw [List.eq_of_mem_replicate ht]; exact PN.one 0), by
      unfold sumC
      rw [List.map_replicate, List.sum_replicate_nat]
      show n * 1 = n
      omega⟩ (by
      rintro i d e hd ⟨xs, o4, o5, o6, o7, rfl, hx, hp, hs⟩
      have hin : i < n := by
        have := (List.getElem?_eq_some_iff.mp hd).1
        rwa [rngD_len] at this
      have hd' : d = .int (0 + (i : Int)) := by
        unfold rngD at hd
        rw [List.getElem?_map, List.getElem?_range hin] at hd
        exact (Option.some.inj hd).symm
      subst hd'
      obtain ⟨xs', p5, p6, p7, e', hx', hp', hs'⟩ := plan_turnN k h c a ha ha2 (.int m) i n (by omega) (by omega) xs hx hp hs o4 o5 o6 o7
      exact ⟨_, e', xs', _, _, _, _, rfl, hx', hp', hs'⟩)
  rw [he]
  rw [rngD_len] at hp hs
  simp only [bind_ok, bind_stuck, bind_ite, toO_ok, toO_exc, toO_ite, nox_ok, nox_ite, then_nx, then_rt, then_ex, then_st, then_ite, toR_rt, toR_nx, toR_ex, toR_ite, iteR_and, iteR_or, iteR_b, iteO_b, notD_b, getV0, getV1, getVs, ev_cn, ev_var, ev_tup, ev_lst, ev_dct0, ev_u, ev_b, ev_and, ev_or, ev_not, ev_chain, ev_ite, ev_sl, ev_isi, ev_call, ev_lc, evs_nil, evs_cons, itemsR_l, itemsR_t, its_seq, its_rng1, its_rng2, ev_rg, rgs_1, rgs_2, its_enum, its_zip, its_rev, enumR_l, enumR_t, revR_l, revR_t, rgD_t, rgD_l, lcC_t, lcD, ex_skip, ex_seq, ex_asg, ex_if, ex_ret, ex_retN, ex_retV, ex_expr, ex_raise, ex_for, ex_while, ex_app, ex_ins, ex_ext, ex_aug, retO_f, add_i, sub_i, fdiv_i, mod_i, eq_i, ne_i, eq_b, ne_b, lt_i, le_i, gt_i, ge_i, is_b, min_i, max_i, idx_t, idx_l, atR0, atR1, len_t, len_l, tup_l, tup_t, lst_l, lst_t, neg_i, ix_i, rev_t, rev_l, sl_t, sl_l, partR_n, partR_i, isi_none_int, isi_none_bool, isi_none_str, isi_none_tuple, isi_none_list, isi_none_dict, isi_bool_int, isi_bool_bool, isi_bool_str, isi_bool_tuple, isi_bool_list, isi_bool_dict, isi_int_int, isi_int_bool, isi_int_str, isi_int_tuple, isi_int_list, isi_int_dict, isi_str_int, isi_str_bool, isi_str_str, isi_str_tuple, isi_str_list, isi_str_dict, isi_list_int, isi_list_bool, isi_list_str, isi_list_tuple, isi_list_list, isi_list_dict, isi_tuple_int, isi_tuple_bool, isi_tuple_str, isi_tuple_tuple, isi_tuple_list, isi_tuple_dict, isi_dict_int, isi_dict_bool, isi_dict_str, isi_dict_tuple, isi_dict_list, isi_dict_dict, start_cons, start_nil1, start_nil0, Bool.not_true, Bool.not_false, decide_eq_true_eq, Bool.not_eq_true', decide_eq_false_iff_not, Bool.false_eq_true, if_false, if_true, reduceIte, List.nil_append, List.append_nil, List.cons_append, asgO_one, asgO_tup, env1_id, decide_true, lk0, lk1, lks, lkI, lkI0, freeze, freeze1, lockL, lock1, unlockL, unlock1, bindT, bindTs, fresh, ownable, wipeE, List.getElem?_cons_zero, List.getElem?_cons_succ, List.set_cons_zero, List.set_cons_succ, List.length_cons, List.length_nil, Bool.false_and, Bool.true_and, Bool.and_true, Bool.and_false, Nat.reduceAdd, Nat.reduceLT, Nat.reduceLeDiff, Option.some.injEq, reduceCtorEq]
  cases xs with
  | nil => exact absurd rfl hx
  | cons x xs =>
    simp only [bind_ok, bind_stuck, bind_ite, toO_ok, toO_exc, toO_ite, nox_ok, nox_ite, then_nx, then_rt, then_ex, then_st, then_ite, toR_rt, toR_nx, toR_ex, toR_ite, iteR_and, iteR_or, iteR_b, iteO_b, notD_b, getV0, getV1, getVs, ev_cn, ev_var, ev_tup, ev_lst, ev_dct0, ev_u, ev_b, ev_and, ev_or, ev_not, ev_chain, ev_ite, ev_sl, ev_isi, ev_call, ev_lc, evs_nil, evs_cons, itemsR_l, itemsR_t, its_seq, its_rng1, its_rng2, ev_rg, rgs_1, rgs_2, its_enum, its_zip, its_rev, enumR_l, enumR_t, revR_l, revR_t, rgD_t, rgD_l, lcC_t, lcD, ex_skip, ex_seq, ex_asg, ex_if, ex_ret, ex_retN, ex_retV, ex_expr, ex_raise, ex_for, ex_while, ex_app, ex_ins, ex_ext, ex_aug, retO_f, add_i, sub_i, fdiv_i, mod_i, eq_i, ne_i, eq_b, ne_b, lt_i, le_i, gt_i, ge_i, is_b, min_i, max_i, idx_t, idx_l, atR0, atR1, len_t, len_l, tup_l, tup_t, lst_l, lst_t, neg_i, ix_i, rev_t, rev_l, sl_t, sl_l, partR_n, partR_i, isi_none_int, isi_none_bool, isi_none_str, isi_none_tuple, isi_none_list, isi_none_dict, isi_bool_int, isi_bool_bool, isi_bool_str, isi_bool_tuple, isi_bool_list, isi_bool_dict, isi_int_int, isi_int_bool, isi_int_str, isi_int_tuple, isi_int_list, isi_int_dict, isi_str_int, isi_str_bool, isi_str_str, isi_str_tuple, isi_str_list, isi_str_dict, isi_list_int, isi_list_bool, isi_list_str, isi_list_tuple, isi_list_list, isi_list_dict, isi_tuple_int, isi_tuple_bool, isi_tuple_str, isi_tuple_tuple, isi_tuple_list, isi_tuple_dict, isi_dict_int, isi_dict_bool, isi_dict_str, isi_dict_tuple, isi_dict_list, isi_dict_dict, start_cons, start_nil1, start_nil0, Bool.not_true, Bool.not_false, decide_eq_true_eq, Bool.not_eq_true', decide_eq_false_iff_not, Bool.false_eq_true, if_false, if_true, reduceIte, List.nil_append, List.append_nil, List.cons_append, asgO_one, asgO_tup, env1_id, decide_true, lk0, lk1, lks, lkI, lkI0, freeze, freeze1, lockL, lock1, unlockL, unlock1, bindT, bindTs, fresh, ownable, wipeE, List.getElem?_cons_zero, List.getElem?_cons_succ, List.set_cons_zero, List.set_cons_succ, List.length_cons, List.length_nil, Bool.false_and, Bool.true_and, Bool.and_true, Bool.and_false, Nat.reduceAdd, Nat.reduceLT, Nat.reduceLeDiff, Option.some.injEq, reduceCtorEq]
    have hpx := hp x List.mem_cons_self
    refine ⟨x, hpx.mono (by omega), ?_, rfl⟩
    rw [cnt_up hpx (by omega : n + 1 ≤ 23)]
    unfold sumC at hs
    simp only [List.map_cons, List.sum_cons] at hs
    omega
end L3

set_option Elab.async false
set_option linter.all false
set_option maxRecDepth 100000
set_option maxHeartbeats 4000000
/-! calls that may be refused: rewriting -/
namespace L3
open PySem
section
variable {T : FT} {env : Env} {fr : Bool} {a b : CS} {c d : RX} {e : CE} {ws : List (String × Str)}
def plR (d : D) : R D := if atom d then .ok d else .stuck
theorem plR_s (x : Str) : plR (.str x) = .ok (.str x) := nd rfl
theorem plR_b (x : Bool) : plR (.bool x) = .ok (.bool x) := nd rfl
theorem ex_ifR : exec T fr (.ifR c a b) env = (evX T c env).toO fun x => iteO x (exec T fr a env) (exec T fr b env) := nd rfl
theorem evX_ref : evX T (.ref ws e) env = wordR ws (ev T e env) := by rw [evX]
theorem evX_pl : evX T (.pl e) env = (ev T e env).bind plR := by rw [evX]; rfl
theorem evX_cmp {ne : Bool} : evX T (.cmp ne c d) env = (evX T c env).bind fun x => (evX T d env).bind fun y => cmpR ne x y := by rw [evX]
theorem evX_and : evX T (.and c d) env = (evX T c env).bind fun x => iteR x (evX T d env) (.ok (.bool false)) := by rw [evX]; rfl
theorem evX_or : evX T (.or c d) env = (evX T c env).bind fun x => iteR x (.ok (.bool true)) (evX T d env) := by rw [evX]; rfl
theorem wordR_exc {n : String} {w : Str} (h : ws.lookup n = some w) : wordR ws (.exc n) = .ok (.str w) := by
  show (match ws.lookup n with | some w => R.ok (PyData.str w) | none => .stuck) = _
  rw [h]
theorem wordR_ok (d : D) : wordR ws (.ok d) = .ok (.str "told") := nd rfl
theorem cmpR_same (w : Str) : cmpR true (.str w) (.str w) = .ok (.bool false) := by
  show R.ok (PyData.bool (if true then !decide (w = w) else decide (w = w))) = _
  rw [if_pos rfl, decide_eq_true rfl]; rfl
theorem cmpR_eq (w : Str) : cmpR false (.str w) (.str w) = .ok (.bool true) := by
  show R.ok (PyData.bool (if false then !decide (w = w) else decide (w = w))) = _
  rw [if_neg Bool.false_ne_true, decide_eq_true rfl]
end
end L3

set_option Elab.async false
set_option linter.all false
set_option maxRecDepth 100000
set_option maxHeartbeats 4000000
/-! webs of plans -/
namespace L3
open PySem
def planN (d : D) : Bool := soB 24 d && decide (onesN 24 d ≤ 40)
theorem tie_good (f : Nat) (p : Nat × Nat) : goodD 1 (tieD f p) := good_tup (n := 0) fun t ht => by
  simp only [List.mem_cons, List.not_mem_nil, or_false] at ht
  rcases ht with rfl | rfl <;> exact ⟨rfl, Nat.zero_le _⟩
theorem sort_ties (l : List (Nat × Nat)) : op1 .sorted (.list (l.map (tieD 0))) = .ok (.list (sortD (l.map (tieD 0)))) := by
  have : sortOk (l.map (tieD 0)) = true := by
    unfold sortOk
    simp only [Bool.and_eq_true, Bool.or_eq_true, List.all_map, List.all_eq_true]
    exact ⟨⟨fun a _ => List.all_eq_true.mpr fun b _ => rfl, fun a _ => (tie_good 0 a).shp (by decide)⟩, .inl fun a _ => rfl⟩
  show (if sortOk (l.map (tieD 0)) = true then R.ok (PyData.list (sortD (l.map (tieD 0)))) else .stuck) = _
  rw [if_pos this]
/-- a plan's web -/
def webD (d : D) : D := .tuple [.int (cntN 24 d : Nat), .tuple (sortD ((tiesN 24 d).map (tieD 0)))]
theorem web_good (d : D) : goodD 64 (webD d) := (good_tup (n := 2) fun t ht => by
  simp only [List.mem_cons, List.not_mem_nil, or_false] at ht
  rcases ht with rfl | rfl
  · exact ⟨rfl, Nat.zero_le _⟩
  · refine good_tup (n := 1) fun t ht => ?_
    have ht := (List.mergeSort_perm _ _).mem_iff.mp ht
    obtain ⟨p, _, rfl⟩ := List.mem_map.mp ht
    exact tie_good 0 p).mono (by decide)
section
variable {T : Tab}
structure TPl (T : Tab) : Prop where
  looks_so : T "looks_so" = some c_looks_so
  ones_in : T "ones_in" = some c_ones_in
  is_plan : T "is_plan" = some c_is_plan
  need_plan : T "need_plan" = some c_need_plan
  ties_of : T "ties_of" = some c_ties_of
  plan_web : T "plan_web" = some c_plan_web
  cell_at : T "_law_cell_at" = some c__law_cell_at
  draw : T "_law_draw" = some c__law_draw
  plan : T "_law_plan" = some c__law_plan
  web_of : T "_law_web_of" = some c__law_web_of
  lplan_web : T "_law_plan_web" = some c__law_plan_web
theorem need_plan_eq (h : TPl T) (k : Nat) {d : D} (hd : goodD 64 d) : callT T (k + 27) "need_plan" [d] = if planN d = true then .ok .none else .exc "NoPlan" := by
  show callT T (k + 26 + 1) _ _ = _
  rw [L3.callT_eq _ h.need_plan rfl]
  have e := is_plan_eq h.looks_so h.ones_in h.is_plan k d hd
  have e : callT T (k + 26) "is_plan" [d] = .ok (.bool (planN d)) := e
  simp only [bind_ok, bind_stuck, bind_ite, toO_ok, toO_exc, toO_ite, nox_ok, nox_ite, then_nx, then_rt, then_ex, then_st, then_ite, toR_rt, toR_nx, toR_ex, toR_ite, iteR_and, iteR_or, iteR_b, iteO_b, notD_b, getV0, getV1, getVs, ev_cn, ev_var, ev_tup, ev_lst, ev_dct0, ev_u, ev_b, ev_and, ev_or, ev_not, ev_chain, ev_ite, ev_sl, ev_isi, ev_call, ev_lc, evs_nil, evs_cons, itemsR_l, itemsR_t, its_seq, its_rng1, its_rng2, ev_rg, rgs_1, rgs_2, its_enum, its_zip, its_rev, enumR_l, enumR_t, revR_l, revR_t, rgD_t, rgD_l, lcC_t, lcD, ex_skip, ex_seq, ex_asg, ex_if, ex_ret, ex_retN, ex_retV, ex_expr, ex_raise, ex_for, ex_while, ex_app, ex_ins, ex_ext, ex_aug, retO_f, add_i, sub_i, fdiv_i, mod_i, eq_i, ne_i, eq_b, ne_b, lt_i, le_i, gt_i, ge_i, is_b, min_i, max_i, idx_t, idx_l, atR0, atR1, len_t, len_l, tup_l, tup_t, lst_l, lst_t, neg_i, ix_i, rev_t, rev_l, sl_t, sl_l, partR_n, partR_i, isi_none_int, isi_none_bool, isi_none_str, isi_none_tuple, isi_none_list, isi_none_dict, isi_bool_int, isi_bool_bool, isi_bool_str, isi_bool_tuple, isi_bool_list, isi_bool_dict, isi_int_int, isi_int_bool, isi_int_str, isi_int_tuple, isi_int_list, isi_int_dict, isi_str_int, isi_str_bool, isi_str_str, isi_str_tuple, isi_str_list, isi_str_dict, isi_list_int, isi_list_bool, isi_list_str, isi_list_tuple, isi_list_list, isi_list_dict, isi_tuple_int, isi_tuple_bool, isi_tuple_str, isi_tuple_tuple, isi_tuple_list, isi_tuple_dict, isi_dict_int, isi_dict_bool, isi_dict_str, isi_dict_tuple, isi_dict_list, isi_dict_dict, start_cons, start_nil1, start_nil0, Bool.not_true, Bool.not_false, decide_eq_true_eq, Bool.not_eq_true', decide_eq_false_iff_not, Bool.false_eq_true, if_false, if_true, reduceIte, List.nil_append, List.append_nil, List.cons_append, asgO_one, asgO_tup, env1_id, decide_true, lk0, lk1, lks, lkI, lkI0, freeze, freeze1, lockL, lock1, unlockL, unlock1, bindT, bindTs, fresh, ownable, wipeE, List.getElem?_cons_zero, List.getElem?_cons_succ, List.set_cons_zero, List.set_cons_succ, List.length_cons, List.length_nil, Bool.false_and, Bool.true_and, Bool.and_true, Bool.and_false, Nat.reduceAdd, Nat.reduceLT, Nat.reduceLeDiff, Option.some.injEq, reduceCtorEq, c_need_plan, e]
  cases planN d <;> simp only [bind_ok, bind_stuck, bind_ite, toO_ok, toO_exc, toO_ite, nox_ok, nox_ite, then_nx, then_rt, then_ex, then_st, then_ite, toR_rt, toR_nx, toR_ex, toR_ite, iteR_and, iteR_or, iteR_b, iteO_b, notD_b, getV0, getV1, getVs, ev_cn, ev_var, ev_tup, ev_lst, ev_dct0, ev_u, ev_b, ev_and, ev_or, ev_not, ev_chain, ev_ite, ev_sl, ev_isi, ev_call, ev_lc, evs_nil, evs_cons, itemsR_l, itemsR_t, its_seq, its_rng1, its_rng2, ev_rg, rgs_1, rgs_2, its_enum, its_zip, its_rev, enumR_l, enumR_t, revR_l, revR_t, rgD_t, rgD_l, lcC_t, lcD, ex_skip, ex_seq, ex_asg, ex_if, ex_ret, ex_retN, ex_retV, ex_expr, ex_raise, ex_for, ex_while, ex_app, ex_ins, ex_ext, ex_aug, retO_f, add_i, sub_i, fdiv_i, mod_i, eq_i, ne_i, eq_b, ne_b, lt_i, le_i, gt_i, ge_i, is_b, min_i, max_i, idx_t, idx_l, atR0, atR1, len_t, len_l, tup_l, tup_t, lst_l, lst_t, neg_i, ix_i, rev_t, rev_l, sl_t, sl_l, partR_n, partR_i, isi_none_int, isi_none_bool, isi_none_str, isi_none_tuple, isi_none_list, isi_none_dict, isi_bool_int, isi_bool_bool, isi_bool_str, isi_bool_tuple, isi_bool_list, isi_bool_dict, isi_int_int, isi_int_bool, isi_int_str, isi_int_tuple, isi_int_list, isi_int_dict, isi_str_int, isi_str_bool, isi_str_str, isi_str_tuple, isi_str_list, isi_str_dict, isi_list_int, isi_list_bool, isi_list_str, isi_list_tuple, isi_list_list, isi_list_dict, isi_tuple_int, isi_tuple_bool, isi_tuple_str, isi_tuple_tuple, isi_tuple_list, isi_tuple_dict, isi_dict_int, isi_dict_bool, isi_dict_str, isi_dict_tuple, isi_dict_list, isi_dict_dict, start_cons, start_nil1, start_nil0, Bool.not_true, Bool.not_false, decide_eq_true_eq, Bool.not_eq_true', decide_eq_false_iff_not, Bool.false_eq_true, if_false, if_true, reduceIte, List.nil_append, List.append_nil, List.cons_append, asgO_one, asgO_tup, env1_id, decide_true, lk0, lk1, lks, lkI, lkI0, freeze, freeze1, lockL, lock1, unlockL, unlock1, bindT, bindTs, fresh, ownable, wipeE, List.getElem?_cons_zero, List.getElem?_cons_succ, List.set_cons_zero, List.set_cons_succ, List.length_cons, List.length_nil, Bool.false_and, Bool.true_and, Bool.and_true, Bool.and_false, Nat.reduceAdd, Nat.reduceLT, Nat.reduceLeDiff, Option.some.injEq, reduceCtorEq]
theorem PN.planN {d : D} (h : PN 24 d) (hc : cntN 24 d ≤ 40) : planN d = true := by
  unfold L3.planN
  rw [h.so, cnt_ones h, decide_eq_true (by omega)]; rfl
theorem plan_web_eq (h : TPl T) (k : Nat) {d : D} (hd : PN 24 d) (hc : cntN 24 d ≤ 40) : callT T (k + 28) "plan_web" [d] = .ok (webD d) := by
  show callT T (k + 27 + 1) _ _ = _
  rw [L3.callT_eq _ h.plan_web rfl]
  have e1 := need_plan_eq h k (hd.good.mono (by decide) : goodD 64 d)
  rw [hd.planN hc, if_pos rfl] at e1
  have e2 : callT T (k + 27) "ones_in" [d] = .ok (.int (cntN 24 d : Nat)) := by
    rw [show k + 27 = k + 3 + 24 from rfl, ones_in_eq h.ones_in 24 (k + 3) d hd.so, cnt_ones hd]
  have e3 : callT T (k + 27) "ties_of" [d, .int 0] = .ok (.list ((tiesN 24 d).map (tieD 0))) := ties_of_eq h.ones_in h.ties_of 24 (k + 3) 0 d hd (by omega)
  simp only [bind_ok, bind_stuck, bind_ite, toO_ok, toO_exc, toO_ite, nox_ok, nox_ite, then_nx, then_rt, then_ex, then_st, then_ite, toR_rt, toR_nx, toR_ex, toR_ite, iteR_and, iteR_or, iteR_b, iteO_b, notD_b, getV0, getV1, getVs, ev_cn, ev_var, ev_tup, ev_lst, ev_dct0, ev_u, ev_b, ev_and, ev_or, ev_not, ev_chain, ev_ite, ev_sl, ev_isi, ev_call, ev_lc, evs_nil, evs_cons, itemsR_l, itemsR_t, its_seq, its_rng1, its_rng2, ev_rg, rgs_1, rgs_2, its_enum, its_zip, its_rev, enumR_l, enumR_t, revR_l, revR_t, rgD_t, rgD_l, lcC_t, lcD, ex_skip, ex_seq, ex_asg, ex_if, ex_ret, ex_retN, ex_retV, ex_expr, ex_raise, ex_for, ex_while, ex_app, ex_ins, ex_ext, ex_aug, retO_f, add_i, sub_i, fdiv_i, mod_i, eq_i, ne_i, eq_b, ne_b, lt_i, le_i, gt_i, ge_i, is_b, min_i, max_i, idx_t, idx_l, atR0, atR1, len_t, len_l, tup_l, tup_t, lst_l, lst_t, neg_i, ix_i, rev_t, rev_l, sl_t, sl_l, partR_n, partR_i, isi_none_int, isi_none_bool, isi_none_str, isi_none_tuple, isi_none_list, isi_none_dict, isi_bool_int, isi_bool_bool, isi_bool_str, isi_bool_tuple, isi_bool_list, isi_bool_dict, isi_int_int, isi_int_bool, isi_int_str, isi_int_tuple, isi_int_list, isi_int_dict, isi_str_int, isi_str_bool, isi_str_str, isi_str_tuple, isi_str_list, isi_str_dict, isi_list_int, isi_list_bool, isi_list_str, isi_list_tuple, isi_list_list, isi_list_dict, isi_tuple_int, isi_tuple_bool, isi_tuple_str, isi_tuple_tuple, isi_tuple_list, isi_tuple_dict, isi_dict_int, isi_dict_bool, isi_dict_str, isi_dict_tuple, isi_dict_list, isi_dict_dict, start_cons, start_nil1, start_nil0, Bool.not_true, Bool.not_false, decide_eq_true_eq, Bool.not_eq_true', decide_eq_false_iff_not, Bool.false_eq_true, if_false, if_true, reduceIte, List.nil_append, List.append_nil, List.cons_append, asgO_one, asgO_tup, env1_id, decide_true, lk0, lk1, lks, lkI, lkI0, freeze, freeze1, lockL, lock1, unlockL, unlock1, bindT, bindTs, fresh, ownable, wipeE, List.getElem?_cons_zero, List.getElem?_cons_succ, List.set_cons_zero, List.set_cons_succ, List.length_cons, List.length_nil, Bool.false_and, Bool.true_and, Bool.and_true, Bool.and_false, Nat.reduceAdd, Nat.reduceLT, Nat.reduceLeDiff, Option.some.injEq, reduceCtorEq, c_plan_web, e1, e2, e3, sort_ties, tupR, lim]
  rfl
theorem lplan_web_eq (h : TPl T) (k : Nat) {d : D} (hd : PN 24 d) (hc : cntN 24 d ≤ 40) : callT T (k + 28) "_law_plan_web" [d] = .ok (webD d) := by
  show callT T (k + 27 + 1) _ _ = _
  rw [L3.callT_eq _ h.lplan_web rfl]
  have e1 : callT T (k + 27) "_law_web_of" [d] = .ok (.tuple [.int (cntN 24 d : Nat), .list ((tiesN 24 d).map (tieD 0))]) := web_of_eq h.web_of 24 (k + 3) d (by decide) hd (by omega)
  simp only [bind_ok, bind_stuck, bind_ite, toO_ok, toO_exc, toO_ite, nox_ok, nox_ite, then_nx, then_rt, then_ex, then_st, then_ite, toR_rt, toR_nx, toR_ex, toR_ite, iteR_and, iteR_or, iteR_b, iteO_b, notD_b, getV0, getV1, getVs, ev_cn, ev_var, ev_tup, ev_lst, ev_dct0, ev_u, ev_b, ev_and, ev_or, ev_not, ev_chain, ev_ite, ev_sl, ev_isi, ev_call, ev_lc, evs_nil, evs_cons, itemsR_l, itemsR_t, its_seq, its_rng1, its_rng2, ev_rg, rgs_1, rgs_2, its_enum, its_zip, its_rev, enumR_l, enumR_t, revR_l, revR_t, rgD_t, rgD_l, lcC_t, lcD, ex_skip, ex_seq, ex_asg, ex_if, ex_ret, ex_retN, ex_retV, ex_expr, ex_raise, ex_for, ex_while, ex_app, ex_ins, ex_ext, ex_aug, retO_f, add_i, sub_i, fdiv_i, mod_i, eq_i, ne_i, eq_b, ne_b, lt_i, le_i, gt_i, ge_i, is_b, min_i, max_i, idx_t, idx_l, atR0, atR1, len_t, len_l, tup_l, tup_t, lst_l, lst_t, neg_i, ix_i, rev_t, rev_l, sl_t, sl_l, partR_n, partR_i, isi_none_int, isi_none_bool, isi_none_str, isi_none_tuple, isi_none_list, isi_none_dict, isi_bool_int, isi_bool_bool, isi_bool_str, isi_bool_tuple, isi_bool_list, isi_bool_dict, isi_int_int, isi_int_bool, isi_int_str, isi_int_tuple, isi_int_list, isi_int_dict, isi_str_int, isi_str_bool, isi_str_str, isi_str_tuple, isi_str_list, isi_str_dict, isi_list_int, isi_list_bool, isi_list_str, isi_list_tuple, isi_list_list, isi_list_dict, isi_tuple_int, isi_tuple_bool, isi_tuple_str, isi_tuple_tuple, isi_tuple_list, isi_tuple_dict, isi_dict_int, isi_dict_bool, isi_dict_str, isi_dict_tuple, isi_dict_list, isi_dict_dict, start_cons, start_nil1, start_nil0, Bool.not_true, Bool.not_false, decide_eq_true_eq, Bool.not_eq_true', decide_eq_false_iff_not, Bool.false_eq_true, if_false, if_true, reduceIte, List.nil_append, List.append_nil, List.cons_append, asgO_one, asgO_tup, env1_id, decide_true, lk0, lk1, lks, lkI, lkI0, freeze, freeze1, lockL, lock1, unlockL, unlock1, bindT, bindTs, fresh, ownable, wipeE, List.getElem?_cons_zero, List.getElem?_cons_succ, List.set_cons_zero, List.set_cons_succ, List.length_cons, List.length_nil, Bool.false_and, Bool.true_and, Bool.and_true, Bool.and_false, Nat.reduceAdd, Nat.reduceLT, Nat.reduceLeDiff, Option.some.injEq, reduceCtorEq, c__law_plan_web, e1, sort_ties, tupR, lim]
  rfl
theorem plan_web_no (h : TPl T) (k : Nat) {d : D} (hd : goodD 64 d) (hn : planN d = false) : callT T (k + 28) "plan_web" [d] = .exc "NoPlan" := by
  show callT T (k + 27 + 1) _ _ = _
  rw [L3.callT_eq _ h.plan_web rfl]
  have e1 := need_plan_eq h k hd
  rw [hn, if_neg Bool.false_ne_true] at e1
  simp only [bind_ok, bind_stuck, bind_ite, toO_ok, toO_exc, toO_ite, nox_ok, nox_ite, then_nx, then_rt, then_ex, then_st, then_ite, toR_rt, toR_nx, toR_ex, toR_ite, iteR_and, iteR_or, iteR_b, iteO_b, notD_b, getV0, getV1, getVs, ev_cn, ev_var, ev_tup, ev_lst, ev_dct0, ev_u, ev_b, ev_and, ev_or, ev_not, ev_chain, ev_ite, ev_sl, ev_isi, ev_call, ev_lc, evs_nil, evs_cons, itemsR_l, itemsR_t, its_seq, its_rng1, its_rng2, ev_rg, rgs_1, rgs_2, its_enum, its_zip, its_rev, enumR_l, enumR_t, revR_l, revR_t, rgD_t, rgD_l, lcC_t, lcD, ex_skip, ex_seq, ex_asg, ex_if, ex_ret, ex_retN, ex_retV, ex_expr, ex_raise, ex_for, ex_while, ex_app, ex_ins, ex_ext, ex_aug, retO_f, add_i, sub_i, fdiv_i, mod_i, eq_i, ne_i, eq_b, ne_b, lt_i, le_i, gt_i, ge_i, is_b, min_i, max_i, idx_t, idx_l, atR0, atR1, len_t, len_l, tup_l, tup_t, lst_l, lst_t, neg_i, ix_i, rev_t, rev_l, sl_t, sl_l, partR_n, partR_i, isi_none_int, isi_none_bool, isi_none_str, isi_none_tuple, isi_none_list, isi_none_dict, isi_bool_int, isi_bool_bool, isi_bool_str, isi_bool_tuple, isi_bool_list, isi_bool_dict, isi_int_int, isi_int_bool, isi_int_str, isi_int_tuple, isi_int_list, isi_int_dict, isi_str_int, isi_str_bool, isi_str_str, isi_str_tuple, isi_str_list, isi_str_dict, isi_list_int, isi_list_bool, isi_list_str, isi_list_tuple, isi_list_list, isi_list_dict, isi_tuple_int, isi_tuple_bool, isi_tuple_str, isi_tuple_tuple, isi_tuple_list, isi_tuple_dict, isi_dict_int, isi_dict_bool, isi_dict_str, isi_dict_tuple, isi_dict_list, isi_dict_dict, start_cons, start_nil1, start_nil0, Bool.not_true, Bool.not_false, decide_eq_true_eq, Bool.not_eq_true', decide_eq_false_iff_not, Bool.false_eq_true, if_false, if_true, reduceIte, List.nil_append, List.append_nil, List.cons_append, asgO_one, asgO_tup, env1_id, decide_true, lk0, lk1, lks, lkI, lkI0, freeze, freeze1, lockL, lock1, unlockL, unlock1, bindT, bindTs, fresh, ownable, wipeE, List.getElem?_cons_zero, List.getElem?_cons_succ, List.set_cons_zero, List.set_cons_succ, List.length_cons, List.length_nil, Bool.false_and, Bool.true_and, Bool.and_true, Bool.and_false, Nat.reduceAdd, Nat.reduceLT, Nat.reduceLeDiff, Option.some.injEq, reduceCtorEq, c_plan_web, e1]
theorem plan_web_dct (h : TPl T) (k : Nat) : callT T (k + 28) "plan_web" [.dict []] = .exc "NoPlan" := by
  show callT T (k + 27 + 1) _ _ = _
  rw [L3.callT_eq _ h.plan_web rfl]
  have e3 : callT T (k + 25) "looks_so" [.dict [], .int 24] = .ok (.bool false) := by
    show callT T (k + 24 + 1) _ _ = _
    rw [L3.callT_eq _ h.looks_so rfl]
    simp only [bind_ok, bind_stuck, bind_ite, toO_ok, toO_exc, toO_ite, nox_ok, nox_ite, then_nx, then_rt, then_ex, then_st, then_ite, toR_rt, toR_nx, toR_ex, toR_ite, iteR_and, iteR_or, iteR_b, iteO_b, notD_b, getV0, getV1, getVs, ev_cn, ev_var, ev_tup, ev_lst, ev_dct0, ev_u, ev_b, ev_and, ev_or, ev_not, ev_chain, ev_ite, ev_sl, ev_isi, ev_call, ev_lc, evs_nil, evs_cons, itemsR_l, itemsR_t, its_seq, its_rng1, its_rng2, ev_rg, rgs_1, rgs_2, its_enum, its_zip, its_rev, enumR_l, enumR_t, revR_l, revR_t, rgD_t, rgD_l, lcC_t, lcD, ex_skip, ex_seq, ex_asg, ex_if, ex_ret, ex_retN, ex_retV, ex_expr, ex_raise, ex_for, ex_while, ex_app, ex_ins, ex_ext, ex_aug, retO_f, add_i, sub_i, fdiv_i, mod_i, eq_i, ne_i, eq_b, ne_b, lt_i, le_i, gt_i, ge_i, is_b, min_i, max_i, idx_t, idx_l, atR0, atR1, len_t, len_l, tup_l, tup_t, lst_l, lst_t, neg_i, ix_i, rev_t, rev_l, sl_t, sl_l, partR_n, partR_i, isi_none_int, isi_none_bool, isi_none_str, isi_none_tuple, isi_none_list, isi_none_dict, isi_bool_int, isi_bool_bool, isi_bool_str, isi_bool_tuple, isi_bool_list, isi_bool_dict, isi_int_int, isi_int_bool, isi_int_str, isi_int_tuple, isi_int_list, isi_int_dict, isi_str_int, isi_str_bool, isi_str_str, isi_str_tuple, isi_str_list, isi_str_dict, isi_list_int, isi_list_bool, isi_list_str, isi_list_tuple, isi_list_list, isi_list_dict, isi_tuple_int, isi_tuple_bool, isi_tuple_str, isi_tuple_tuple, isi_tuple_list, isi_tuple_dict, isi_dict_int, isi_dict_bool, isi_dict_str, isi_dict_tuple, isi_dict_list, isi_dict_dict, start_cons, start_nil1, start_nil0, Bool.not_true, Bool.not_false, decide_eq_true_eq, Bool.not_eq_true', decide_eq_false_iff_not, Bool.false_eq_true, if_false, if_true, reduceIte, List.nil_append, List.append_nil, List.cons_append, asgO_one, asgO_tup, env1_id, decide_true, lk0, lk1, lks, lkI, lkI0, freeze, freeze1, lockL, lock1, unlockL, unlock1, bindT, bindTs, fresh, ownable, wipeE, List.getElem?_cons_zero, List.getElem?_cons_succ, List.set_cons_zero, List.set_cons_succ, List.length_cons, List.length_nil, Bool.false_and, Bool.true_and, Bool.and_true, Bool.and_false, Nat.reduceAdd, Nat.reduceLT, Nat.reduceLeDiff, Option.some.injEq, reduceCtorEq, c_looks_so]
  have e2 : callT T (k + 26) "is_plan" [.dict []] = .ok (.bool false) := by
    show callT T (k + 25 + 1) _ _ = _
    rw [L3.callT_eq _ h.is_plan rfl]
    simp only [bind_ok, bind_stuck, bind_ite, toO_ok, toO_exc, toO_ite, nox_ok, nox_ite, then_nx, then_rt, then_ex, then_st, then_ite, toR_rt, toR_nx, toR_ex, toR_ite, iteR_and, iteR_or, iteR_b, iteO_b, notD_b, getV0, getV1, getVs, ev_cn, ev_var, ev_tup, ev_lst, ev_dct0, ev_u, ev_b, ev_and, ev_or, ev_not, ev_chain, ev_ite, ev_sl, ev_isi, ev_call, ev_lc, evs_nil, evs_cons, itemsR_l, itemsR_t, its_seq, its_rng1, its_rng2, ev_rg, rgs_1, rgs_2, its_enum, its_zip, its_rev, enumR_l, enumR_t, revR_l, revR_t, rgD_t, rgD_l, lcC_t, lcD, ex_skip, ex_seq, ex_asg, ex_if, ex_ret, ex_retN, ex_retV, ex_expr, ex_raise, ex_for, ex_while, ex_app, ex_ins, ex_ext, ex_aug, retO_f, add_i, sub_i, fdiv_i, mod_i, eq_i, ne_i, eq_b, ne_b, lt_i, le_i, gt_i, ge_i, is_b, min_i, max_i, idx_t, idx_l, atR0, atR1, len_t, len_l, tup_l, tup_t, lst_l, lst_t, neg_i, ix_i, rev_t, rev_l, sl_t, sl_l, partR_n, partR_i, isi_none_int, isi_none_bool, isi_none_str, isi_none_tuple, isi_none_list, isi_none_dict, isi_bool_int, isi_bool_bool, isi_bool_str, isi_bool_tuple, isi_bool_list, isi_bool_dict, isi_int_int, isi_int_bool, isi_int_str, isi_int_tuple, isi_int_list, isi_int_dict, isi_str_int, isi_str_bool, isi_str_str, isi_str_tuple, isi_str_list, isi_str_dict, isi_list_int, isi_list_bool, isi_list_str, isi_list_tuple, isi_list_list, isi_list_dict, isi_tuple_int, isi_tuple_bool, isi_tuple_str, isi_tuple_tuple, isi_tuple_list, isi_tuple_dict, isi_dict_int, isi_dict_bool, isi_dict_str, isi_dict_tuple, isi_dict_list, isi_dict_dict, start_cons, start_nil1, start_nil0, Bool.not_true, Bool.not_false, decide_eq_true_eq, Bool.not_eq_true', decide_eq_false_iff_not, Bool.false_eq_true, if_false, if_true, reduceIte, List.nil_append, List.append_nil, List.cons_append, asgO_one, asgO_tup, env1_id, decide_true, lk0, lk1, lks, lkI, lkI0, freeze, freeze1, lockL, lock1, unlockL, unlock1, bindT, bindTs, fresh, ownable, wipeE, List.getElem?_cons_zero, List.getElem?_cons_succ, List.set_cons_zero, List.set_cons_succ, List.length_cons, List.length_nil, Bool.false_and, Bool.true_and, Bool.and_true, Bool.and_false, Nat.reduceAdd, Nat.reduceLT, Nat.reduceLeDiff, Option.some.injEq, reduceCtorEq, c_is_plan, e3]
  have e1 : callT T (k + 27) "need_plan" [.dict []] = .exc "NoPlan" := by
    show callT T (k + 26 + 1) _ _ = _
    rw [L3.callT_eq _ h.need_plan rfl]
    simp only [bind_ok, bind_stuck, bind_ite, toO_ok, toO_exc, toO_ite, nox_ok, nox_ite, then_nx, then_rt, then_ex, then_st, then_ite, toR_rt, toR_nx, toR_ex, toR_ite, iteR_and, iteR_or, iteR_b, iteO_b, notD_b, getV0, getV1, getVs, ev_cn, ev_var, ev_tup, ev_lst, ev_dct0, ev_u, ev_b, ev_and, ev_or, ev_not, ev_chain, ev_ite, ev_sl, ev_isi, ev_call, ev_lc, evs_nil, evs_cons, itemsR_l, itemsR_t, its_seq, its_rng1, its_rng2, ev_rg, rgs_1, rgs_2, its_enum, its_zip, its_rev, enumR_l, enumR_t, revR_l, revR_t, rgD_t, rgD_l, lcC_t, lcD, ex_skip, ex_seq, ex_asg, ex_if, ex_ret, ex_retN, ex_retV, ex_expr, ex_raise, ex_for, ex_while, ex_app, ex_ins, ex_ext, ex_aug, retO_f, add_i, sub_i, fdiv_i, mod_i, eq_i, ne_i, eq_b, ne_b, lt_i, le_i, gt_i, ge_i, is_b, min_i, max_i, idx_t, idx_l, atR0, atR1, len_t, len_l, tup_l, tup_t, lst_l, lst_t, neg_i, ix_i, rev_t, rev_l, sl_t, sl_l, partR_n, partR_i, isi_none_int, isi_none_bool, isi_none_str, isi_none_tuple, isi_none_list, isi_none_dict, isi_bool_int, isi_bool_bool, isi_bool_str, isi_bool_tuple, isi_bool_list, isi_bool_dict, isi_int_int, isi_int_bool, isi_int_str, isi_int_tuple, isi_int_list, isi_int_dict, isi_str_int, isi_str_bool, isi_str_str, isi_str_tuple, isi_str_list, isi_str_dict, isi_list_int, isi_list_bool, isi_list_str, isi_list_tuple, isi_list_list, isi_list_dict, isi_tuple_int, isi_tuple_bool, isi_tuple_str, isi_tuple_tuple, isi_tuple_list, isi_tuple_dict, isi_dict_int, isi_dict_bool, isi_dict_str, isi_dict_tuple, isi_dict_list, isi_dict_dict, start_cons, start_nil1, start_nil0, Bool.not_true, Bool.not_false, decide_eq_true_eq, Bool.not_eq_true', decide_eq_false_iff_not, Bool.false_eq_true, if_false, if_true, reduceIte, List.nil_append, List.append_nil, List.cons_append, asgO_one, asgO_tup, env1_id, decide_true, lk0, lk1, lks, lkI, lkI0, freeze, freeze1, lockL, lock1, unlockL, unlock1, bindT, bindTs, fresh, ownable, wipeE, List.getElem?_cons_zero, List.getElem?_cons_succ, List.set_cons_zero, List.set_cons_succ, List.length_cons, List.length_nil, Bool.false_and, Bool.true_and, Bool.and_true, Bool.and_false, Nat.reduceAdd, Nat.reduceLT, Nat.reduceLeDiff, Option.some.injEq, reduceCtorEq, c_need_plan, e2]
  simp only [bind_ok, bind_stuck, bind_ite, toO_ok, toO_exc, toO_ite, nox_ok, nox_ite, then_nx, then_rt, then_ex, then_st, then_ite, toR_rt, toR_nx, toR_ex, toR_ite, iteR_and, iteR_or, iteR_b, iteO_b, notD_b, getV0, getV1, getVs, ev_cn, ev_var, ev_tup, ev_lst, ev_dct0, ev_u, ev_b, ev_and, ev_or, ev_not, ev_chain, ev_ite, ev_sl, ev_isi, ev_call, ev_lc, evs_nil, evs_cons, itemsR_l, itemsR_t, its_seq, its_rng1, its_rng2, ev_rg, rgs_1, rgs_2, its_enum, its_zip, its_rev, enumR_l, enumR_t, revR_l, revR_t, rgD_t, rgD_l, lcC_t, lcD, ex_skip, ex_seq, ex_asg, ex_if, ex_ret, ex_retN, ex_retV, ex_expr, ex_raise, ex_for, ex_while, ex_app, ex_ins, ex_ext, ex_aug, retO_f, add_i, sub_i, fdiv_i, mod_i, eq_i, ne_i, eq_b, ne_b, lt_i, le_i, gt_i, ge_i, is_b, min_i, max_i, idx_t, idx_l, atR0, atR1, len_t, len_l, tup_l, tup_t, lst_l, lst_t, neg_i, ix_i, rev_t, rev_l, sl_t, sl_l, partR_n, partR_i, isi_none_int, isi_none_bool, isi_none_str, isi_none_tuple, isi_none_list, isi_none_dict, isi_bool_int, isi_bool_bool, isi_bool_str, isi_bool_tuple, isi_bool_list, isi_bool_dict, isi_int_int, isi_int_bool, isi_int_str, isi_int_tuple, isi_int_list, isi_int_dict, isi_str_int, isi_str_bool, isi_str_str, isi_str_tuple, isi_str_list, isi_str_dict, isi_list_int, isi_list_bool, isi_list_str, isi_list_tuple, isi_list_list, isi_list_dict, isi_tuple_int, isi_tuple_bool, isi_tuple_str, isi_tuple_tuple, isi_tuple_list, isi_tuple_dict, isi_dict_int, isi_dict_bool, isi_dict_str, isi_dict_tuple, isi_dict_list, isi_dict_dict, start_cons, start_nil1, start_nil0, Bool.not_true, Bool.not_false, decide_eq_true_eq, Bool.not_eq_true', decide_eq_false_iff_not, Bool.false_eq_true, if_false, if_true, reduceIte, List.nil_append, List.append_nil, List.cons_append, asgO_one, asgO_tup, env1_id, decide_true, lk0, lk1, lks, lkI, lkI0, freeze, freeze1, lockL, lock1, unlockL, unlock1, bindT, bindTs, fresh, ownable, wipeE, List.getElem?_cons_zero, List.getElem?_cons_succ, List.set_cons_zero, List.set_cons_succ, List.length_cons, List.length_nil, Bool.false_and, Bool.true_and, Bool.and_true, Bool.and_false, Nat.reduceAdd, Nat.reduceLT, Nat.reduceLeDiff, Option.some.injEq, reduceCtorEq, c_plan_web, e1]
/-- two plans in one -/
theorem two_PN {p q : D} (ac : Bool) (hp : PN 23 p) (hq : PN 23 q) : PN 24 (nodeD ac [p, q]) ∧ cntN 24 (nodeD ac [p, q]) = cntN 23 p + cntN 23 q := by
  refine ⟨.inr ⟨ac, _, rfl, Nat.le_refl _, fun t ht => ?_⟩, ?_⟩
  · simp only [List.mem_cons, List.not_mem_nil, or_false] at ht
    rcases ht with rfl | rfl
    · exact hp
    · exact hq
  · show cntN 23 p + (cntN 23 q + 0) = _
    omega
/-- what is no plan -/
theorem bads {p q : D} (hp : PN 23 p) (hq : PN 23 q) (h : TPl T) (k : Nat) : ∀ d, d ∈ [PyData.none, .tuple [], .tuple [.str (Str.ofString "two")], .list [.str sOne], .tuple [.str sAc, .tuple [p]], .tuple [.str sBe, .list [p, q]], .tuple [p, q], .int 0, .str sOne, .tuple [.str sAc, .tuple (List.replicate 41 [oneD]).flatten], .tuple [.str sBe, .tuple [p, .none]], .tuple [.str sOne, .tuple [p, q]], .dict []] → callT T (k + 28) "plan_web" [d] = .exc "NoPlan" := by
  have gp : goodD 46 p := hp.good
  have gq : goodD 46 q := hq.good
  have gt : ∀ (s : Str) (xs : List D), PyData.canLay0 (.str s) = true → (∀ t, t ∈ xs → goodD 46 t) → goodD 64 (.tuple [.str s, .tuple xs]) := fun s xs hs hx => (good_tup (n := 47) fun t ht => by
    simp only [List.mem_cons, List.not_mem_nil, or_false] at ht
    rcases ht with rfl | rfl
    · exact good_s _ hs
    · exact good_tup hx).mono (by decide)
  have g2 : ∀ t, t ∈ [p, q] → goodD 46 t := fun t ht => by
    simp only [List.mem_cons, List.not_mem_nil, or_false] at ht
    rcases ht with rfl | rfl
    · exact gp
    · exact gq
  have tupP : ∃ xs, p = .tuple xs := by
    rcases hp with rfl | ⟨ac, ts, rfl, _⟩ <;> exact ⟨_, rfl⟩
  intro d hd
  simp only [List.mem_cons, List.not_mem_nil, or_false] at hd
  rcases hd with rfl | rfl | rfl | rfl | rfl | rfl | rfl | rfl | rfl | rfl | rfl | rfl | rfl
  · exact plan_web_no h k ⟨rfl, Nat.zero_le _⟩ rfl
  · exact plan_web_no h k ⟨rfl, by decide⟩ rfl
  · exact plan_web_no h k ⟨by decide +kernel, by decide +kernel⟩ (by decide +kernel)
  · exact plan_web_no h k ⟨by decide +kernel, by decide +kernel⟩ (by decide +kernel)
  · refine plan_web_no h k (gt _ _ (good_ac 0).1 fun t ht => by rw [List.mem_singleton] at ht; subst ht; exact gp) ?_
    rfl
  · refine plan_web_no h k ((good_tup (n := 47) fun t ht => by
      simp only [List.mem_cons, List.not_mem_nil, or_false] at ht
      rcases ht with rfl | rfl
      · exact good_be _
      · exact good_lst g2).mono (by decide)) ?_
    rfl
  · refine plan_web_no h k ((good_tup g2).mono (by decide)) ?_
    obtain ⟨xs, rfl⟩ := tupP
    cases q <;> rfl
  · exact plan_web_no h k ⟨rfl, Nat.zero_le _⟩ rfl
  · exact plan_web_no h k ⟨by decide +kernel, by decide +kernel⟩ rfl
  · exact plan_web_no h k ⟨by decide +kernel, by decide +kernel⟩ (by decide +kernel)
  · refine plan_web_no h k (gt _ _ (good_be 0).1 fun t ht => by
      simp only [List.mem_cons, List.not_mem_nil, or_false] at ht
      rcases ht with rfl | rfl
      · exact gp
      · exact ⟨rfl, Nat.zero_le _⟩) ?_
    show ((isW _ && (_ && (soB 23 p && (soB 23 .none && true)))) && _) = false
    rw [show soB 23 PyData.none = false from rfl]
    simp
  · refine plan_web_no h k (gt _ _ (good_1 0).1 g2) ?_
    show ((isW (.str sOne) && _) && _) = false
    rw [show isW (.str sOne) = false by decide +kernel]
    rfl
  · exact plan_web_dct h k
end
end L3

set_option Elab.async false
set_option linter.all false
set_option maxRecDepth 100000
set_option maxHeartbeats 4000000
namespace L3
open PySem
theorem ne_web (d : D) : op2 .ne (webD d) (webD d) = .ok (.bool false) := by
  show notR (eqD (webD d) (webD d)) = _
  have : eqD (webD d) (webD d) = .ok (.bool (PyData.eqv (webD d) (webD d))) := by
    show (if (shp (webD d) && shp (webD d)) = true then _ else _) = _
    rw [(web_good d).shp (by decide)]; rfl
  rw [this, SeqAt.eqv_refl _ (web_good d).1]
  rfl
theorem rep_tN {xs : List D} {k : Int} (h : xs ≠ []) (h0 : 2 ≤ k) (h1 : k ≤ 1000) (h2 : xs.length ≤ 1000) : op2 .rep (.tuple xs) (.int k) = .ok (.tuple (List.replicate k.toNat xs).flatten) := if_pos ⟨h, h0, h1, h2⟩
theorem k42_b0 {T : Tab} (h : TPl T) (d : D) (hd : PN 24 d) (hc : cntN 24 d ≤ 40) (e0 e1 e2 e3 e4 o5 o6 e7 e8 : Option (D × Fl)) :
    turn ⟨callT T 39, frOf T⟩ false (.one 5) c_law_b0 d [e0, e1, e2, e3, e4, o5, o6, e7, e8] = .nx [e0, e1, e2, e3, e4, some (d, .fro), some (webD d, .fro), e7, e8] := by
  have p1 : callT T 39 "plan_web" [d] = .ok (webD d) := plan_web_eq h 11 hd hc
  have p2 : callT T 39 "_law_plan_web" [d] = .ok (webD d) := lplan_web_eq h 11 hd hc
  have fp : frOf T "plan_web" = false := by unfold frOf; rw [h.plan_web]; rfl
  have i1 : isiD (webD d) .tuple = true := rfl
  have i2 : op2 .idx (webD d) (.int 1) = .ok (.tuple (sortD ((tiesN 24 d).map (tieD 0)))) := by unfold webD; simp only [bind_ok, bind_stuck, bind_ite, toO_ok, toO_exc, toO_ite, nox_ok, nox_ite, then_nx, then_rt, then_ex, then_st, then_ite, toR_rt, toR_nx, toR_ex, toR_ite, iteR_and, iteR_or, iteR_b, iteO_b, notD_b, getV0, getV1, getVs, ev_cn, ev_var, ev_tup, ev_lst, ev_dct0, ev_u, ev_b, ev_and, ev_or, ev_not, ev_chain, ev_ite, ev_sl, ev_isi, ev_call, ev_lc, evs_nil, evs_cons, itemsR_l, itemsR_t, its_seq, its_rng1, its_rng2, ev_rg, rgs_1, rgs_2, its_enum, its_zip, its_rev, enumR_l, enumR_t, revR_l, revR_t, rgD_t, rgD_l, lcC_t, lcD, ex_skip, ex_seq, ex_asg, ex_if, ex_ret, ex_retN, ex_retV, ex_expr, ex_raise, ex_for, ex_while, ex_app, ex_ins, ex_ext, ex_aug, retO_f, add_i, sub_i, fdiv_i, mod_i, eq_i, ne_i, eq_b, ne_b, lt_i, le_i, gt_i, ge_i, is_b, min_i, max_i, idx_t, idx_l, atR0, atR1, len_t, len_l, tup_l, tup_t, lst_l, lst_t, neg_i, ix_i, rev_t, rev_l, sl_t, sl_l, partR_n, partR_i, isi_none_int, isi_none_bool, isi_none_str, isi_none_tuple, isi_none_list, isi_none_dict, isi_bool_int, isi_bool_bool, isi_bool_str, isi_bool_tuple, isi_bool_list, isi_bool_dict, isi_int_int, isi_int_bool, isi_int_str, isi_int_tuple, isi_int_list, isi_int_dict, isi_str_int, isi_str_bool, isi_str_str, isi_str_tuple, isi_str_list, isi_str_dict, isi_list_int, isi_list_bool, isi_list_str, isi_list_tuple, isi_list_list, isi_list_dict, isi_tuple_int, isi_tuple_bool, isi_tuple_str, isi_tuple_tuple, isi_tuple_list, isi_tuple_dict, isi_dict_int, isi_dict_bool, isi_dict_str, isi_dict_tuple, isi_dict_list, isi_dict_dict, start_cons, start_nil1, start_nil0, Bool.not_true, Bool.not_false, decide_eq_true_eq, Bool.not_eq_true', decide_eq_false_iff_not, Bool.false_eq_true, if_false, if_true, reduceIte, List.nil_append, List.append_nil, List.cons_append, asgO_one, asgO_tup, env1_id, decide_true, lk0, lk1, lks, lkI, lkI0, freeze, freeze1, lockL, lock1, unlockL, unlock1, bindT, bindTs, fresh, ownable, wipeE, List.getElem?_cons_zero, List.getElem?_cons_succ, List.set_cons_zero, List.set_cons_succ, List.length_cons, List.length_nil, Bool.false_and, Bool.true_and, Bool.and_true, Bool.and_false, Nat.reduceAdd, Nat.reduceLT, Nat.reduceLeDiff, Option.some.injEq, reduceCtorEq]
  unfold turn
  simp only [bind_ok, bind_stuck, bind_ite, toO_ok, toO_exc, toO_ite, nox_ok, nox_ite, then_nx, then_rt, then_ex, then_st, then_ite, toR_rt, toR_nx, toR_ex, toR_ite, iteR_and, iteR_or, iteR_b, iteO_b, notD_b, getV0, getV1, getVs, ev_cn, ev_var, ev_tup, ev_lst, ev_dct0, ev_u, ev_b, ev_and, ev_or, ev_not, ev_chain, ev_ite, ev_sl, ev_isi, ev_call, ev_lc, evs_nil, evs_cons, itemsR_l, itemsR_t, its_seq, its_rng1, its_rng2, ev_rg, rgs_1, rgs_2, its_enum, its_zip, its_rev, enumR_l, enumR_t, revR_l, revR_t, rgD_t, rgD_l, lcC_t, lcD, ex_skip, ex_seq, ex_asg, ex_if, ex_ret, ex_retN, ex_retV, ex_expr, ex_raise, ex_for, ex_while, ex_app, ex_ins, ex_ext, ex_aug, retO_f, add_i, sub_i, fdiv_i, mod_i, eq_i, ne_i, eq_b, ne_b, lt_i, le_i, gt_i, ge_i, is_b, min_i, max_i, idx_t, idx_l, atR0, atR1, len_t, len_l, tup_l, tup_t, lst_l, lst_t, neg_i, ix_i, rev_t, rev_l, sl_t, sl_l, partR_n, partR_i, isi_none_int, isi_none_bool, isi_none_str, isi_none_tuple, isi_none_list, isi_none_dict, isi_bool_int, isi_bool_bool, isi_bool_str, isi_bool_tuple, isi_bool_list, isi_bool_dict, isi_int_int, isi_int_bool, isi_int_str, isi_int_tuple, isi_int_list, isi_int_dict, isi_str_int, isi_str_bool, isi_str_str, isi_str_tuple, isi_str_list, isi_str_dict, isi_list_int, isi_list_bool, isi_list_str, isi_list_tuple, isi_list_list, isi_list_dict, isi_tuple_int, isi_tuple_bool, isi_tuple_str, isi_tuple_tuple, isi_tuple_list, isi_tuple_dict, isi_dict_int, isi_dict_bool, isi_dict_str, isi_dict_tuple, isi_dict_list, isi_dict_dict, start_cons, start_nil1, start_nil0, Bool.not_true, Bool.not_false, decide_eq_true_eq, Bool.not_eq_true', decide_eq_false_iff_not, Bool.false_eq_true, if_false, if_true, reduceIte, List.nil_append, List.append_nil, List.cons_append, asgO_one, asgO_tup, env1_id, decide_true, lk0, lk1, lks, lkI, lkI0, freeze, freeze1, lockL, lock1, unlockL, unlock1, bindT, bindTs, fresh, ownable, wipeE, List.getElem?_cons_zero, List.getElem?_cons_succ, List.set_cons_zero, List.set_cons_succ, List.length_cons, List.length_nil, Bool.false_and, Bool.true_and, Bool.and_true, Bool.and_false, Nat.reduceAdd, Nat.reduceLT, Nat.reduceLeDiff, Option.some.injEq, reduceCtorEq, c_law_b0, p1, p2, fp, i1, i2, ne_web]
theorem k42_b1 {T : Tab} (h : TPl T) (ns : List Int) (j : Nat) (e1 e2 e3 e4 e5 e6 e7 e8 : Option (D × Fl)) : ∃ o1 o2 o3 o4 o5 o6 o7 o8,
    turn ⟨callT T 39, frOf T⟩ false (.one 1) c_law_b1 (.int (0 + (j : Int))) [some (.list (ns.map .int), .fro), e1, e2, e3, e4, e5, e6, e7, e8] = .nx [some (.list (ns.map .int), .fro), o1, o2, o3, o4, o5, o6, o7, o8] := by
  unfold turn
  obtain ⟨c, ec⟩ := cell_at_eq 38 h.cell_at ns j
  obtain ⟨r0, r00, r01, er0⟩ := draw_eq 38 h.draw c 0 20 (by omega) (by omega) (by omega) (by omega)
  obtain ⟨r1, r10, r11, er1⟩ := draw_eq 38 h.draw c 1 20 (by omega) (by omega) (by omega) (by omega)
  obtain ⟨r2, r20, r21, er2⟩ := draw_eq 38 h.draw c 8000 13 (by omega) (by omega) (by omega) (by omega)
  obtain ⟨p, hp, cp, ep⟩ := plan_eqN 37 h.draw h.plan c 5000 (1 + r0) (by omega) (by omega) (by omega) (by omega)
  obtain ⟨q, hq, cq, eq⟩ := plan_eqN 37 h.draw h.plan c 6000 (1 + r1) (by omega) (by omega) (by omega) (by omega)
  have rp : op2 .rep (.tuple [.tuple [.str (Str.ofString "one")]]) (.int 41) = .ok (.tuple (List.replicate 41 [oneD]).flatten) := rep_tN (by simp) (by decide) (by decide) (by decide)
  have fp : frOf T "_law_plan" = false := by unfold frOf; rw [h.plan]; rfl
  have fc : frOf T "_law_cell_at" = false := by unfold frOf; rw [h.cell_at]; rfl
  obtain ⟨pa, ca⟩ := two_PN true hp hq
  obtain ⟨pb, cb⟩ := two_PN false hq hp
  have u1 := cnt_up hp (by decide : 23 ≤ 24)
  have u2 := cnt_up hq (by decide : 23 ≤ 24)
  have hall : ∀ t, t ∈ [p, q, nodeD true [p, q], nodeD false [q, p]] → PN 24 t ∧ cntN 24 t ≤ 40 := fun t ht => by
    simp only [List.mem_cons, List.not_mem_nil, or_false] at ht
    rcases ht with rfl | rfl | rfl | rfl
    · exact ⟨hp.up, by omega⟩
    · exact ⟨hq.up, by omega⟩
    · exact ⟨pa, by omega⟩
    · exact ⟨pb, by omega⟩
  have l1 : op2 .add (.list [.none, .tuple [], .tuple [.str (Str.ofString "two")], .list [.str (Str.ofString "one")], .tuple [.str (Str.ofString "across"), .tuple [p]], .tuple [.str (Str.ofString "beside"), .list [p, q]], .tuple [p, q], .int 0, .str (Str.ofString "one")]) (.list [.tuple [.str (Str.ofString "across"), .tuple (List.replicate 41 [oneD]).flatten], .tuple [.str (Str.ofString "beside"), .tuple [p, .none]], .tuple [.str (Str.ofString "one"), .tuple [p, q]], .dict []]) =
      .ok (.list [PyData.none, .tuple [], .tuple [.str (Str.ofString "two")], .list [.str sOne], .tuple [.str sAc, .tuple [p]], .tuple [.str sBe, .list [p, q]], .tuple [p, q], .int 0, .str sOne, .tuple [.str sAc, .tuple (List.replicate 41 [oneD]).flatten], .tuple [.str sBe, .tuple [p, .none]], .tuple [.str sOne, .tuple [p, q]], .dict []]) := add_l _ _ (by simp [lim])
  obtain ⟨d, hd, ed⟩ := atR_of (xs := [PyData.none, .tuple [], .tuple [.str (Str.ofString "two")], .list [.str sOne], .tuple [.str sAc, .tuple [p]], .tuple [.str sBe, .list [p, q]], .tuple [p, q], .int 0, .str sOne, .tuple [.str sAc, .tuple (List.replicate 41 [oneD]).flatten], .tuple [.str sBe, .tuple [p, .none]], .tuple [.str sOne, .tuple [p, q]], .dict []]) (i := r2) (fun d => callT T 39 "plan_web" [d] = .exc "NoPlan") r20 (by simpa using r21) (bads hp hq h 11)
  simp only [bind_ok, bind_stuck, bind_ite, toO_ok, toO_exc, toO_ite, nox_ok, nox_ite, then_nx, then_rt, then_ex, then_st, then_ite, toR_rt, toR_nx, toR_ex, toR_ite, iteR_and, iteR_or, iteR_b, iteO_b, notD_b, getV0, getV1, getVs, ev_cn, ev_var, ev_tup, ev_lst, ev_dct0, ev_u, ev_b, ev_and, ev_or, ev_not, ev_chain, ev_ite, ev_sl, ev_isi, ev_call, ev_lc, evs_nil, evs_cons, itemsR_l, itemsR_t, its_seq, its_rng1, its_rng2, ev_rg, rgs_1, rgs_2, its_enum, its_zip, its_rev, enumR_l, enumR_t, revR_l, revR_t, rgD_t, rgD_l, lcC_t, lcD, ex_skip, ex_seq, ex_asg, ex_if, ex_ret, ex_retN, ex_retV, ex_expr, ex_raise, ex_for, ex_while, ex_app, ex_ins, ex_ext, ex_aug, retO_f, add_i, sub_i, fdiv_i, mod_i, eq_i, ne_i, eq_b, ne_b, lt_i, le_i, gt_i, ge_i, is_b, min_i, max_i, idx_t, idx_l, atR0, atR1, len_t, len_l, tup_l, tup_t, lst_l, lst_t, neg_i, ix_i, rev_t, rev_l, sl_t, sl_l, partR_n, partR_i, isi_none_int, isi_none_bool, isi_none_str, isi_none_tuple, isi_none_list, isi_none_dict, isi_bool_int, isi_bool_bool, isi_bool_str, isi_bool_tuple, isi_bool_list, isi_bool_dict, isi_int_int, isi_int_bool, isi_int_str, isi_int_tuple, isi_int_list, isi_int_dict, isi_str_int, isi_str_bool, isi_str_str, isi_str_tuple, isi_str_list, isi_str_dict, isi_list_int, isi_list_bool, isi_list_str, isi_list_tuple, isi_list_list, isi_list_dict, isi_tuple_int, isi_tuple_bool, isi_tuple_str, isi_tuple_tuple, isi_tuple_list, isi_tuple_dict, isi_dict_int, isi_dict_bool, isi_dict_str, isi_dict_tuple, isi_dict_list, isi_dict_dict, start_cons, start_nil1, start_nil0, Bool.not_true, Bool.not_false, decide_eq_true_eq, Bool.not_eq_true', decide_eq_false_iff_not, Bool.false_eq_true, if_false, if_true, reduceIte, List.nil_append, List.append_nil, List.cons_append, asgO_one, asgO_tup, env1_id, decide_true, lk0, lk1, lks, lkI, lkI0, freeze, freeze1, lockL, lock1, unlockL, unlock1, bindT, bindTs, fresh, ownable, wipeE, List.getElem?_cons_zero, List.getElem?_cons_succ, List.set_cons_zero, List.set_cons_succ, List.length_cons, List.length_nil, Bool.false_and, Bool.true_and, Bool.and_true, Bool.and_false, Nat.reduceAdd, Nat.reduceLT, Nat.reduceLeDiff, Option.some.injEq, reduceCtorEq, c_law_b1, fp, fc, Int.zero_add, ec, er0, er1, ep, eq, lstR, tupR, lim]
  unfold forO
  simp only [bind_ok, bind_stuck, bind_ite, toO_ok, toO_exc, toO_ite, nox_ok, nox_ite, then_nx, then_rt, then_ex, then_st, then_ite, toR_rt, toR_nx, toR_ex, toR_ite, iteR_and, iteR_or, iteR_b, iteO_b, notD_b, getV0, getV1, getVs, ev_cn, ev_var, ev_tup, ev_lst, ev_dct0, ev_u, ev_b, ev_and, ev_or, ev_not, ev_chain, ev_ite, ev_sl, ev_isi, ev_call, ev_lc, evs_nil, evs_cons, itemsR_l, itemsR_t, its_seq, its_rng1, its_rng2, ev_rg, rgs_1, rgs_2, its_enum, its_zip, its_rev, enumR_l, enumR_t, revR_l, revR_t, rgD_t, rgD_l, lcC_t, lcD, ex_skip, ex_seq, ex_asg, ex_if, ex_ret, ex_retN, ex_retV, ex_expr, ex_raise, ex_for, ex_while, ex_app, ex_ins, ex_ext, ex_aug, retO_f, add_i, sub_i, fdiv_i, mod_i, eq_i, ne_i, eq_b, ne_b, lt_i, le_i, gt_i, ge_i, is_b, min_i, max_i, idx_t, idx_l, atR0, atR1, len_t, len_l, tup_l, tup_t, lst_l, lst_t, neg_i, ix_i, rev_t, rev_l, sl_t, sl_l, partR_n, partR_i, isi_none_int, isi_none_bool, isi_none_str, isi_none_tuple, isi_none_list, isi_none_dict, isi_bool_int, isi_bool_bool, isi_bool_str, isi_bool_tuple, isi_bool_list, isi_bool_dict, isi_int_int, isi_int_bool, isi_int_str, isi_int_tuple, isi_int_list, isi_int_dict, isi_str_int, isi_str_bool, isi_str_str, isi_str_tuple, isi_str_list, isi_str_dict, isi_list_int, isi_list_bool, isi_list_str, isi_list_tuple, isi_list_list, isi_list_dict, isi_tuple_int, isi_tuple_bool, isi_tuple_str, isi_tuple_tuple, isi_tuple_list, isi_tuple_dict, isi_dict_int, isi_dict_bool, isi_dict_str, isi_dict_tuple, isi_dict_list, isi_dict_dict, start_cons, start_nil1, start_nil0, Bool.not_true, Bool.not_false, decide_eq_true_eq, Bool.not_eq_true', decide_eq_false_iff_not, Bool.false_eq_true, if_false, if_true, reduceIte, List.nil_append, List.append_nil, List.cons_append, asgO_one, asgO_tup, env1_id, decide_true, lk0, lk1, lks, lkI, lkI0, freeze, freeze1, lockL, lock1, unlockL, unlock1, bindT, bindTs, fresh, ownable, wipeE, List.getElem?_cons_zero, List.getElem?_cons_succ, List.set_cons_zero, List.set_cons_succ, List.length_cons, List.length_nil, Bool.false_and, Bool.true_and, Bool.and_true, Bool.and_false, Nat.reduceAdd, Nat.reduceLT, Nat.reduceLeDiff, Option.some.injEq, reduceCtorEq]
  generalize hL : [p, q, PyData.tuple [PyData.str (Str.ofString "across"), PyData.tuple [p, q]], PyData.tuple [PyData.str (Str.ofString "beside"), PyData.tuple [q, p]]] = L
  have hall : ∀ t, t ∈ L → PN 24 t ∧ cntN 24 t ≤ 40 := by rw [← hL]; exact hall
  obtain ⟨e, he, o5, o6, rfl⟩ := forL_nx (f := turn ⟨callT T 39, frOf T⟩ false (.one 5) c_law_b0) (fun i e => ∃ (o5 o6 : Option (D × Fl)), e = [some (.list (ns.map .int), .fro), some (.int (j : Int), .fro), some (.int c, .fro), some (p, .fro), some (q, .fro), o5, o6, e7, e8])
    (ds := L) (env := [some (.list (ns.map .int), .fro), some (.int (j : Int), .fro), some (.int c, .fro), some (p, .fro), some (q, .fro), e5, e6, e7, e8]) ⟨_, _, rfl⟩ (by
      rintro i t e ht ⟨o5, o6, rfl⟩
      obtain ⟨h1, h2⟩ := hall t (List.mem_of_getElem? ht)
      exact ⟨_, k42_b0 h t h1 h2 _ _ _ _ _ o5 o6 _ _, _, _, rfl⟩)
  rw [he]
  simp only [bind_ok, bind_stuck, bind_ite, toO_ok, toO_exc, toO_ite, nox_ok, nox_ite, then_nx, then_rt, then_ex, then_st, then_ite, toR_rt, toR_nx, toR_ex, toR_ite, iteR_and, iteR_or, iteR_b, iteO_b, notD_b, getV0, getV1, getVs, ev_cn, ev_var, ev_tup, ev_lst, ev_dct0, ev_u, ev_b, ev_and, ev_or, ev_not, ev_chain, ev_ite, ev_sl, ev_isi, ev_call, ev_lc, evs_nil, evs_cons, itemsR_l, itemsR_t, its_seq, its_rng1, its_rng2, ev_rg, rgs_1, rgs_2, its_enum, its_zip, its_rev, enumR_l, enumR_t, revR_l, revR_t, rgD_t, rgD_l, lcC_t, lcD, ex_skip, ex_seq, ex_asg, ex_if, ex_ret, ex_retN, ex_retV, ex_expr, ex_raise, ex_for, ex_while, ex_app, ex_ins, ex_ext, ex_aug, retO_f, add_i, sub_i, fdiv_i, mod_i, eq_i, ne_i, eq_b, ne_b, lt_i, le_i, gt_i, ge_i, is_b, min_i, max_i, idx_t, idx_l, atR0, atR1, len_t, len_l, tup_l, tup_t, lst_l, lst_t, neg_i, ix_i, rev_t, rev_l, sl_t, sl_l, partR_n, partR_i, isi_none_int, isi_none_bool, isi_none_str, isi_none_tuple, isi_none_list, isi_none_dict, isi_bool_int, isi_bool_bool, isi_bool_str, isi_bool_tuple, isi_bool_list, isi_bool_dict, isi_int_int, isi_int_bool, isi_int_str, isi_int_tuple, isi_int_list, isi_int_dict, isi_str_int, isi_str_bool, isi_str_str, isi_str_tuple, isi_str_list, isi_str_dict, isi_list_int, isi_list_bool, isi_list_str, isi_list_tuple, isi_list_list, isi_list_dict, isi_tuple_int, isi_tuple_bool, isi_tuple_str, isi_tuple_tuple, isi_tuple_list, isi_tuple_dict, isi_dict_int, isi_dict_bool, isi_dict_str, isi_dict_tuple, isi_dict_list, isi_dict_dict, start_cons, start_nil1, start_nil0, Bool.not_true, Bool.not_false, decide_eq_true_eq, Bool.not_eq_true', decide_eq_false_iff_not, Bool.false_eq_true, if_false, if_true, reduceIte, List.nil_append, List.append_nil, List.cons_append, asgO_one, asgO_tup, env1_id, decide_true, lk0, lk1, lks, lkI, lkI0, freeze, freeze1, lockL, lock1, unlockL, unlock1, bindT, bindTs, fresh, ownable, wipeE, List.getElem?_cons_zero, List.getElem?_cons_succ, List.set_cons_zero, List.set_cons_succ, List.length_cons, List.length_nil, Bool.false_and, Bool.true_and, Bool.and_true, Bool.and_false, Nat.reduceAdd, Nat.reduceLT, Nat.reduceLeDiff, Option.some.injEq, reduceCtorEq, lstR, tupR, lim, rp, l1, er2, ed, ex_ifR, evX_cmp, evX_ref, evX_pl, plR_s, hd]
  rw [wordR_exc (w := Str.ofString "plan") rfl]
  simp only [bind_ok, bind_stuck, bind_ite, toO_ok, toO_exc, toO_ite, nox_ok, nox_ite, then_nx, then_rt, then_ex, then_st, then_ite, toR_rt, toR_nx, toR_ex, toR_ite, iteR_and, iteR_or, iteR_b, iteO_b, notD_b, getV0, getV1, getVs, ev_cn, ev_var, ev_tup, ev_lst, ev_dct0, ev_u, ev_b, ev_and, ev_or, ev_not, ev_chain, ev_ite, ev_sl, ev_isi, ev_call, ev_lc, evs_nil, evs_cons, itemsR_l, itemsR_t, its_seq, its_rng1, its_rng2, ev_rg, rgs_1, rgs_2, its_enum, its_zip, its_rev, enumR_l, enumR_t, revR_l, revR_t, rgD_t, rgD_l, lcC_t, lcD, ex_skip, ex_seq, ex_asg, ex_if, ex_ret, ex_retN, ex_retV, ex_expr, ex_raise, ex_for, ex_while, ex_app, ex_ins, ex_ext, ex_aug, retO_f, add_i, sub_i, fdiv_i, mod_i, eq_i, ne_i, eq_b, ne_b, lt_i, le_i, gt_i, ge_i, is_b, min_i, max_i, idx_t, idx_l, atR0, atR1, len_t, len_l, tup_l, tup_t, lst_l, lst_t, neg_i, ix_i, rev_t, rev_l, sl_t, sl_l, partR_n, partR_i, isi_none_int, isi_none_bool, isi_none_str, isi_none_tuple, isi_none_list, isi_none_dict, isi_bool_int, isi_bool_bool, isi_bool_str, isi_bool_tuple, isi_bool_list, isi_bool_dict, isi_int_int, isi_int_bool, isi_int_str, isi_int_tuple, isi_int_list, isi_int_dict, isi_str_int, isi_str_bool, isi_str_str, isi_str_tuple, isi_str_list, isi_str_dict, isi_list_int, isi_list_bool, isi_list_str, isi_list_tuple, isi_list_list, isi_list_dict, isi_tuple_int, isi_tuple_bool, isi_tuple_str, isi_tuple_tuple, isi_tuple_list, isi_tuple_dict, isi_dict_int, isi_dict_bool, isi_dict_str, isi_dict_tuple, isi_dict_list, isi_dict_dict, start_cons, start_nil1, start_nil0, Bool.not_true, Bool.not_false, decide_eq_true_eq, Bool.not_eq_true', decide_eq_false_iff_not, Bool.false_eq_true, if_false, if_true, reduceIte, List.nil_append, List.append_nil, List.cons_append, asgO_one, asgO_tup, env1_id, decide_true, lk0, lk1, lks, lkI, lkI0, freeze, freeze1, lockL, lock1, unlockL, unlock1, bindT, bindTs, fresh, ownable, wipeE, List.getElem?_cons_zero, List.getElem?_cons_succ, List.set_cons_zero, List.set_cons_succ, List.length_cons, List.length_nil, Bool.false_and, Bool.true_and, Bool.and_true, Bool.and_false, Nat.reduceAdd, Nat.reduceLT, Nat.reduceLeDiff, Option.some.injEq, reduceCtorEq, cmpR_same]
  exact ⟨_, _, _, _, _, _, _, _, rfl⟩
theorem k42_law {T : Tab} (h : TPl T) (hlw : T "law" = some c_law) (ns : List Int) (hn : ns.length ≤ 63) : callT T 40 "law" [.list (ns.map .int)] = .ok (.bool true) := by
  rw [L3.callT_eq 39 hlw rfl]
  simp only [bind_ok, bind_stuck, bind_ite, toO_ok, toO_exc, toO_ite, nox_ok, nox_ite, then_nx, then_rt, then_ex, then_st, then_ite, toR_rt, toR_nx, toR_ex, toR_ite, iteR_and, iteR_or, iteR_b, iteO_b, notD_b, getV0, getV1, getVs, ev_cn, ev_var, ev_tup, ev_lst, ev_dct0, ev_u, ev_b, ev_and, ev_or, ev_not, ev_chain, ev_ite, ev_sl, ev_isi, ev_call, ev_lc, evs_nil, evs_cons, itemsR_l, itemsR_t, its_seq, its_rng1, its_rng2, ev_rg, rgs_1, rgs_2, its_enum, its_zip, its_rev, enumR_l, enumR_t, revR_l, revR_t, rgD_t, rgD_l, lcC_t, lcD, ex_skip, ex_seq, ex_asg, ex_if, ex_ret, ex_retN, ex_retV, ex_expr, ex_raise, ex_for, ex_while, ex_app, ex_ins, ex_ext, ex_aug, retO_f, add_i, sub_i, fdiv_i, mod_i, eq_i, ne_i, eq_b, ne_b, lt_i, le_i, gt_i, ge_i, is_b, min_i, max_i, idx_t, idx_l, atR0, atR1, len_t, len_l, tup_l, tup_t, lst_l, lst_t, neg_i, ix_i, rev_t, rev_l, sl_t, sl_l, partR_n, partR_i, isi_none_int, isi_none_bool, isi_none_str, isi_none_tuple, isi_none_list, isi_none_dict, isi_bool_int, isi_bool_bool, isi_bool_str, isi_bool_tuple, isi_bool_list, isi_bool_dict, isi_int_int, isi_int_bool, isi_int_str, isi_int_tuple, isi_int_list, isi_int_dict, isi_str_int, isi_str_bool, isi_str_str, isi_str_tuple, isi_str_list, isi_str_dict, isi_list_int, isi_list_bool, isi_list_str, isi_list_tuple, isi_list_list, isi_list_dict, isi_tuple_int, isi_tuple_bool, isi_tuple_str, isi_tuple_tuple, isi_tuple_list, isi_tuple_dict, isi_dict_int, isi_dict_bool, isi_dict_str, isi_dict_tuple, isi_dict_list, isi_dict_dict, start_cons, start_nil1, start_nil0, Bool.not_true, Bool.not_false, decide_eq_true_eq, Bool.not_eq_true', decide_eq_false_iff_not, Bool.false_eq_true, if_false, if_true, reduceIte, List.nil_append, List.append_nil, List.cons_append, asgO_one, asgO_tup, env1_id, decide_true, lk0, lk1, lks, lkI, lkI0, freeze, freeze1, lockL, lock1, unlockL, unlock1, bindT, bindTs, fresh, ownable, wipeE, List.getElem?_cons_zero, List.getElem?_cons_succ, List.set_cons_zero, List.set_cons_succ, List.length_cons, List.length_nil, Bool.false_and, Bool.true_and, Bool.and_true, Bool.and_false, Nat.reduceAdd, Nat.reduceLT, Nat.reduceLeDiff, Option.some.injEq, reduceCtorEq, c_law, List.length_map, int_ite]
  generalize hg : (if (if (6 : Int) < ns.length then (6 : Int) else ns.length) > 1 then (if (6 : Int) < ns.length then (6 : Int) else ns.length) else 1) = g
  have hg1 : 0 ≤ g ∧ g ≤ 6 := by subst hg; split <;> split <;> omega
  simp only [bind_ok, bind_stuck, bind_ite, toO_ok, toO_exc, toO_ite, nox_ok, nox_ite, then_nx, then_rt, then_ex, then_st, then_ite, toR_rt, toR_nx, toR_ex, toR_ite, iteR_and, iteR_or, iteR_b, iteO_b, notD_b, getV0, getV1, getVs, ev_cn, ev_var, ev_tup, ev_lst, ev_dct0, ev_u, ev_b, ev_and, ev_or, ev_not, ev_chain, ev_ite, ev_sl, ev_isi, ev_call, ev_lc, evs_nil, evs_cons, itemsR_l, itemsR_t, its_seq, its_rng1, its_rng2, ev_rg, rgs_1, rgs_2, its_enum, its_zip, its_rev, enumR_l, enumR_t, revR_l, revR_t, rgD_t, rgD_l, lcC_t, lcD, ex_skip, ex_seq, ex_asg, ex_if, ex_ret, ex_retN, ex_retV, ex_expr, ex_raise, ex_for, ex_while, ex_app, ex_ins, ex_ext, ex_aug, retO_f, add_i, sub_i, fdiv_i, mod_i, eq_i, ne_i, eq_b, ne_b, lt_i, le_i, gt_i, ge_i, is_b, min_i, max_i, idx_t, idx_l, atR0, atR1, len_t, len_l, tup_l, tup_t, lst_l, lst_t, neg_i, ix_i, rev_t, rev_l, sl_t, sl_l, partR_n, partR_i, isi_none_int, isi_none_bool, isi_none_str, isi_none_tuple, isi_none_list, isi_none_dict, isi_bool_int, isi_bool_bool, isi_bool_str, isi_bool_tuple, isi_bool_list, isi_bool_dict, isi_int_int, isi_int_bool, isi_int_str, isi_int_tuple, isi_int_list, isi_int_dict, isi_str_int, isi_str_bool, isi_str_str, isi_str_tuple, isi_str_list, isi_str_dict, isi_list_int, isi_list_bool, isi_list_str, isi_list_tuple, isi_list_list, isi_list_dict, isi_tuple_int, isi_tuple_bool, isi_tuple_str, isi_tuple_tuple, isi_tuple_list, isi_tuple_dict, isi_dict_int, isi_dict_bool, isi_dict_str, isi_dict_tuple, isi_dict_list, isi_dict_dict, start_cons, start_nil1, start_nil0, Bool.not_true, Bool.not_false, decide_eq_true_eq, Bool.not_eq_true', decide_eq_false_iff_not, Bool.false_eq_true, if_false, if_true, reduceIte, List.nil_append, List.append_nil, List.cons_append, asgO_one, asgO_tup, env1_id, decide_true, lk0, lk1, lks, lkI, lkI0, freeze, freeze1, lockL, lock1, unlockL, unlock1, bindT, bindTs, fresh, ownable, wipeE, List.getElem?_cons_zero, List.getElem?_cons_succ, List.set_cons_zero, List.set_cons_succ, List.length_cons, List.length_nil, Bool.false_and, Bool.true_and, Bool.and_true, Bool.and_false, Nat.reduceAdd, Nat.reduceLT, Nat.reduceLeDiff, Option.some.injEq, reduceCtorEq, rng1_ok (show -1000000 ≤ g by omega) (show g ≤ 16777216 by omega)]
  unfold forO
  simp only [bind_ok, bind_stuck, bind_ite, toO_ok, toO_exc, toO_ite, nox_ok, nox_ite, then_nx, then_rt, then_ex, then_st, then_ite, toR_rt, toR_nx, toR_ex, toR_ite, iteR_and, iteR_or, iteR_b, iteO_b, notD_b, getV0, getV1, getVs, ev_cn, ev_var, ev_tup, ev_lst, ev_dct0, ev_u, ev_b, ev_and, ev_or, ev_not, ev_chain, ev_ite, ev_sl, ev_isi, ev_call, ev_lc, evs_nil, evs_cons, itemsR_l, itemsR_t, its_seq, its_rng1, its_rng2, ev_rg, rgs_1, rgs_2, its_enum, its_zip, its_rev, enumR_l, enumR_t, revR_l, revR_t, rgD_t, rgD_l, lcC_t, lcD, ex_skip, ex_seq, ex_asg, ex_if, ex_ret, ex_retN, ex_retV, ex_expr, ex_raise, ex_for, ex_while, ex_app, ex_ins, ex_ext, ex_aug, retO_f, add_i, sub_i, fdiv_i, mod_i, eq_i, ne_i, eq_b, ne_b, lt_i, le_i, gt_i, ge_i, is_b, min_i, max_i, idx_t, idx_l, atR0, atR1, len_t, len_l, tup_l, tup_t, lst_l, lst_t, neg_i, ix_i, rev_t, rev_l, sl_t, sl_l, partR_n, partR_i, isi_none_int, isi_none_bool, isi_none_str, isi_none_tuple, isi_none_list, isi_none_dict, isi_bool_int, isi_bool_bool, isi_bool_str, isi_bool_tuple, isi_bool_list, isi_bool_dict, isi_int_int, isi_int_bool, isi_int_str, isi_int_tuple, isi_int_list, isi_int_dict, isi_str_int, isi_str_bool, isi_str_str, isi_str_tuple, isi_str_list, isi_str_dict, isi_list_int, isi_list_bool, isi_list_str, isi_list_tuple, isi_list_list, isi_list_dict, isi_tuple_int, isi_tuple_bool, isi_tuple_str, isi_tuple_tuple, isi_tuple_list, isi_tuple_dict, isi_dict_int, isi_dict_bool, isi_dict_str, isi_dict_tuple, isi_dict_list, isi_dict_dict, start_cons, start_nil1, start_nil0, Bool.not_true, Bool.not_false, decide_eq_true_eq, Bool.not_eq_true', decide_eq_false_iff_not, Bool.false_eq_true, if_false, if_true, reduceIte, List.nil_append, List.append_nil, List.cons_append, asgO_one, asgO_tup, env1_id, decide_true, lk0, lk1, lks, lkI, lkI0, freeze, freeze1, lockL, lock1, unlockL, unlock1, bindT, bindTs, fresh, ownable, wipeE, List.getElem?_cons_zero, List.getElem?_cons_succ, List.set_cons_zero, List.set_cons_succ, List.length_cons, List.length_nil, Bool.false_and, Bool.true_and, Bool.and_true, Bool.and_false, Nat.reduceAdd, Nat.reduceLT, Nat.reduceLeDiff, Option.some.injEq, reduceCtorEq]
  obtain ⟨e, he, o1, o2, o3, o4, o5, o6, o7, o8, rfl⟩ := forL_nx (f := turn ⟨callT T 39, frOf T⟩ false (.one 1) c_law_b1) (fun i e => ∃ (o1 o2 o3 o4 o5 o6 o7 o8 : Option (D × Fl)), e = [some (.list (ns.map .int), .fro), o1, o2, o3, o4, o5, o6, o7, o8])
    (ds := rngD 0 g.toNat) (env := [some (.list (ns.map .int), .fro), none, none, none, none, none, none, none, none]) ⟨_, _, _, _, _, _, _, _, rfl⟩ (by
      rintro i d e hi ⟨o1, o2, o3, o4, o5, o6, o7, o8, rfl⟩
      obtain ⟨j, hj, rfl⟩ := rngD_mem (List.mem_of_getElem? hi)
      obtain ⟨a1, a2, a3, a4, a5, a6, a7, a8, e'⟩ := k42_b1 h ns j o1 o2 o3 o4 o5 o6 o7 o8
      exact ⟨_, e', _, _, _, _, _, _, _, _, rfl⟩)
  rw [he]
  have p1 : callT T 39 "plan_web" [.tuple [.str (Str.ofString "one")]] = .ok (webD oneD) := plan_web_eq h 11 (PN.one 23) (by decide)
  have hw : webD oneD = .tuple [.int 1, .tuple []] := by
    unfold webD
    rw [show tiesN 24 oneD = [] from rfl, show sortD (([] : List (Nat × Nat)).map (tieD 0)) = [] by simp [sortD]]
    rfl
  rw [hw] at p1
  simp only [bind_ok, bind_stuck, bind_ite, toO_ok, toO_exc, toO_ite, nox_ok, nox_ite, then_nx, then_rt, then_ex, then_st, then_ite, toR_rt, toR_nx, toR_ex, toR_ite, iteR_and, iteR_or, iteR_b, iteO_b, notD_b, getV0, getV1, getVs, ev_cn, ev_var, ev_tup, ev_lst, ev_dct0, ev_u, ev_b, ev_and, ev_or, ev_not, ev_chain, ev_ite, ev_sl, ev_isi, ev_call, ev_lc, evs_nil, evs_cons, itemsR_l, itemsR_t, its_seq, its_rng1, its_rng2, ev_rg, rgs_1, rgs_2, its_enum, its_zip, its_rev, enumR_l, enumR_t, revR_l, revR_t, rgD_t, rgD_l, lcC_t, lcD, ex_skip, ex_seq, ex_asg, ex_if, ex_ret, ex_retN, ex_retV, ex_expr, ex_raise, ex_for, ex_while, ex_app, ex_ins, ex_ext, ex_aug, retO_f, add_i, sub_i, fdiv_i, mod_i, eq_i, ne_i, eq_b, ne_b, lt_i, le_i, gt_i, ge_i, is_b, min_i, max_i, idx_t, idx_l, atR0, atR1, len_t, len_l, tup_l, tup_t, lst_l, lst_t, neg_i, ix_i, rev_t, rev_l, sl_t, sl_l, partR_n, partR_i, isi_none_int, isi_none_bool, isi_none_str, isi_none_tuple, isi_none_list, isi_none_dict, isi_bool_int, isi_bool_bool, isi_bool_str, isi_bool_tuple, isi_bool_list, isi_bool_dict, isi_int_int, isi_int_bool, isi_int_str, isi_int_tuple, isi_int_list, isi_int_dict, isi_str_int, isi_str_bool, isi_str_str, isi_str_tuple, isi_str_list, isi_str_dict, isi_list_int, isi_list_bool, isi_list_str, isi_list_tuple, isi_list_list, isi_list_dict, isi_tuple_int, isi_tuple_bool, isi_tuple_str, isi_tuple_tuple, isi_tuple_list, isi_tuple_dict, isi_dict_int, isi_dict_bool, isi_dict_str, isi_dict_tuple, isi_dict_list, isi_dict_dict, start_cons, start_nil1, start_nil0, Bool.not_true, Bool.not_false, decide_eq_true_eq, Bool.not_eq_true', decide_eq_false_iff_not, Bool.false_eq_true, if_false, if_true, reduceIte, List.nil_append, List.append_nil, List.cons_append, asgO_one, asgO_tup, env1_id, decide_true, lk0, lk1, lks, lkI, lkI0, freeze, freeze1, lockL, lock1, unlockL, unlock1, bindT, bindTs, fresh, ownable, wipeE, List.getElem?_cons_zero, List.getElem?_cons_succ, List.set_cons_zero, List.set_cons_succ, List.length_cons, List.length_nil, Bool.false_and, Bool.true_and, Bool.and_true, Bool.and_false, Nat.reduceAdd, Nat.reduceLT, Nat.reduceLeDiff, Option.some.injEq, reduceCtorEq, tupR, lim, p1]
  rfl
end L3

set_option Elab.async false
set_option linter.all false
set_option maxRecDepth 100000
set_option maxHeartbeats 4000000
namespace L3
open PySem PySem.Spec PyProof.Rows L2

def topS (i : Nat) : Stmt := PySem.Challenge.pw_fewways_k42_webs_of_plans.main.body.getD i (.Pass ⟨0, 0, 0, 0⟩)
def tConsts : List (Str × D) := [(Str.ofString "MOST_ONES", .int 40), (Str.ofString "MOST_DEEP", .int 24), (Str.ofString "ONE", (.tuple [(.str (Str.ofString "one"))]))]
def tExcs : List (Str × String) := [(Str.ofString "NoPlan", "NoPlan")]
def tBns : List Str := [Str.ofString "all", Str.ofString "sum", Str.ofString "range", Str.ofString "len", Str.ofString "list", Str.ofString "tuple", Str.ofString "isinstance", Str.ofString "max", Str.ofString "str", Str.ofString "sorted", Str.ofString "min"]
def e_looks_so : Ent := ⟨Str.ofString "looks_so", "looks_so", topS 18, ["thing", "deep", "one"], ["thing", "deep"], c_looks_so⟩
def e_ones_in : Ent := ⟨Str.ofString "ones_in", "ones_in", topS 19, ["plan", "one"], ["plan"], c_ones_in⟩
def e_is_plan : Ent := ⟨Str.ofString "is_plan", "is_plan", topS 20, ["thing"], ["thing"], c_is_plan⟩
def e_need_plan : Ent := ⟨Str.ofString "need_plan", "need_plan", topS 21, ["thing"], ["thing"], c_need_plan⟩
def e_ties_of : Ent := ⟨Str.ofString "ties_of", "ties_of", topS 22, ["plan", "first", "found", "ahead", "at", "one", "here", "other", "place"], ["plan", "first"], c_ties_of⟩
def e_plan_web : Ent := ⟨Str.ofString "plan_web", "plan_web", topS 23, ["plan"], ["plan"], c_plan_web⟩
def e__law_cell_at : Ent := ⟨Str.ofString "_law_cell_at", "_law_cell_at", topS 25, ["_law_script", "_law_k"], ["_law_script", "_law_k"], c__law_cell_at⟩
def e__law_draw : Ent := ⟨Str.ofString "_law_draw", "_law_draw", topS 26, ["_law_cell", "_law_k", "_law_bound", "_law_left", "_law_j", "_law_stir"], ["_law_cell", "_law_k", "_law_bound"], c__law_draw⟩
def e__law_plan : Ent := ⟨Str.ofString "_law_plan", "_law_plan", topS 27, ["_law_cell", "_law_at", "_law_many", "_law_some", "_law_turn", "_law_wide", "_law_first", "_law_word"], ["_law_cell", "_law_at", "_law_many"], c__law_plan⟩
def e__law_web_of : Ent := ⟨Str.ofString "_law_web_of", "_law_web_of", topS 28, ["_law_plan_here", "_law_many", "_law_ties", "_law_one", "_law_wide", "_law_more", "_law_place", "_law_first", "_law_second", "_law_other"], ["_law_plan_here"], c__law_web_of⟩
def e__law_plan_web : Ent := ⟨Str.ofString "_law_plan_web", "_law_plan_web", topS 29, ["_law_plan_here", "_law_many", "_law_ties"], ["_law_plan_here"], c__law_plan_web⟩
def e_law : Ent := ⟨Str.ofString "law", "law", topS 32, ["_law_script", "_law_k", "_law_cell", "_law_plan_here", "_law_other", "_law_some", "_law_found", "_law_odd", "_law_bad"], ["_law_script"], c_law⟩
def e__law_class : Ent := ⟨Str.ofString "_law_class", "_law_class", topS 30, ["_law_error", "_law_kinds", "_law_words"], ["_law_error"], ⟨1, 1, false, .skip⟩⟩
def e__law_refused : Ent := ⟨Str.ofString "_law_refused", "_law_refused", topS 31, ["_law_call", "_law_word", "_law_error"], ["_law_call"], ⟨1, 1, false, .skip⟩⟩
def tEs : List Ent := [e_looks_so, e_ones_in, e_is_plan, e_need_plan, e_ties_of, e_plan_web, e__law_cell_at, e__law_draw, e__law_plan, e__law_web_of, e__law_plan_web]
def tTab : Tab := fun key => match key with
  | "looks_so" => some c_looks_so
  | "ones_in" => some c_ones_in
  | "is_plan" => some c_is_plan
  | "need_plan" => some c_need_plan
  | "ties_of" => some c_ties_of
  | "plan_web" => some c_plan_web
  | "_law_cell_at" => some c__law_cell_at
  | "_law_draw" => some c__law_draw
  | "_law_plan" => some c__law_plan
  | "_law_web_of" => some c__law_web_of
  | "_law_plan_web" => some c__law_plan_web
  | "law" => some c_law
  | _ => none
def AllE (p : Ent → Prop) : List Ent → Prop
  | [] => True
  | e :: r => p e ∧ AllE p r
theorem allE {p : Ent → Prop} : ∀ {es : List Ent}, AllE p es → ∀ e, e ∈ es → p e
  | [], _, e, h => by cases h
  | _ :: _, ⟨a, b⟩, e, h => by
    rcases List.mem_cons.mp h with h | h
    · exact h ▸ a
    · exact allE b e h
theorem t_looks_so : EntOk tEs tConsts tExcs tBns e_looks_so := ⟨by decide +kernel, rfl, rfl, by kernel_rfl⟩
theorem t_ones_in : EntOk tEs tConsts tExcs tBns e_ones_in := ⟨by decide +kernel, rfl, rfl, by kernel_rfl⟩
theorem t_is_plan : EntOk tEs tConsts tExcs tBns e_is_plan := ⟨by decide +kernel, rfl, rfl, by kernel_rfl⟩
theorem t_need_plan : EntOk tEs tConsts tExcs tBns e_need_plan := ⟨by decide +kernel, rfl, rfl, by kernel_rfl⟩
theorem t_ties_of : EntOk tEs tConsts tExcs tBns e_ties_of := ⟨by decide +kernel, rfl, rfl, by kernel_rfl⟩
theorem t_plan_web : EntOk tEs tConsts tExcs tBns e_plan_web := ⟨by decide +kernel, rfl, rfl, by kernel_rfl⟩
theorem t__law_cell_at : EntOk tEs tConsts tExcs tBns e__law_cell_at := ⟨by decide +kernel, rfl, rfl, by kernel_rfl⟩
theorem t__law_draw : EntOk tEs tConsts tExcs tBns e__law_draw := ⟨by decide +kernel, rfl, rfl, by kernel_rfl⟩
theorem t__law_plan : EntOk tEs tConsts tExcs tBns e__law_plan := ⟨by decide +kernel, rfl, rfl, by kernel_rfl⟩
theorem t__law_web_of : EntOk tEs tConsts tExcs tBns e__law_web_of := ⟨by decide +kernel, rfl, rfl, by kernel_rfl⟩
theorem t__law_plan_web : EntOk tEs tConsts tExcs tBns e__law_plan_web := ⟨by decide +kernel, rfl, rfl, by kernel_rfl⟩
theorem tOk : ∀ e, e ∈ tEs → EntOk tEs tConsts tExcs tBns e := allE ⟨t_looks_so, t_ones_in, t_is_plan, t_need_plan, t_ties_of, t_plan_web, t__law_cell_at, t__law_draw, t__law_plan, t__law_web_of, t__law_plan_web, trivial⟩
theorem tTabOk : ∀ e, e ∈ tEs → tTab e.key = some e.fd := allE ⟨by kernel_rfl, by kernel_rfl, by kernel_rfl, by kernel_rfl, by kernel_rfl, by kernel_rfl, by kernel_rfl, by kernel_rfl, by kernel_rfl, by kernel_rfl, by kernel_rfl, trivial⟩
theorem t_law : LawE tEs tConsts tExcs tBns (Str.ofString "_law_refused") c_words e_law := ⟨by decide +kernel, rfl, rfl, by kernel_rfl, rfl, by kernel_rfl⟩
def is_NoPlan : List (Str × Bool) := [("FewError", true), ("ValueError", true), ("NoWeb", false), ("NoPlace", false), ("NoWay", false), ("NoParting", false), ("TooMany", false), ("NoForest", false), ("NoPlan", true), ("NoOneWay", false), ("NoOrder", false), ("NoText", false), ("NoDeed", false), ("NoRow", false)]
theorem isx_NoPlan : exK ⟨defScope e__law_class.st, e__law_class.N, true, [], [], [], [], none⟩ is_NoPlan 100 (some .exc :: (e__law_class.N.drop 1).map fun _ => none) (defBody e__law_class.st) = some (.str (Str.ofString "plan")) := by kernel_rfl
theorem law_true : ∀ ns : List Int, ns.length ≤ 63 → callT tTab 40 "law" [.list (ns.map .int)] = .ok (.bool true) := fun ns hn => k42_law
  { looks_so := by kernel_rfl, ones_in := by kernel_rfl, is_plan := by kernel_rfl, need_plan := by kernel_rfl, ties_of := by kernel_rfl, plan_web := by kernel_rfl, cell_at := by kernel_rfl, draw := by kernel_rfl, plan := by kernel_rfl, web_of := by kernel_rfl, lplan_web := by kernel_rfl } (by kernel_rfl) ns hn

/-- where a def stands -/
def DefAt (K : PySem.W.Frag) (x : Str) (st : Stmt) : Prop := ∃ (f : Addr) (od an : Option Addr) (sl : Array (Option Value)) (oc kV dc pm cd ct : Value), PySem.W.nsIn K mainGlobals x = some (some (.ref f)) ∧
  K.lookup f = some ⟨oc, od, .func (PySem.W.fnOf x x (defArgs st) (defBody st) (defScope st) .none kV dc pm an cd ct), sl⟩ ∧ PySem.W.codeIn K cd x = true ∧ PySem.W.keepIn K (.ref f) = true
theorem defAt_mk {K : PySem.W.Frag} {x : Str} {st : Stmt} {f : Addr} {od an : Option Addr} {sl : Array (Option Value)} {oc kV dc pm cd ct : Value} (a : PySem.W.nsIn K mainGlobals x = some (some (.ref f)))
    (l : K.lookup f = some ⟨oc, od, .func (PySem.W.fnOf x x (defArgs st) (defBody st) (defScope st) .none kV dc pm an cd ct), sl⟩) (c : PySem.W.codeIn K cd x = true) (k : PySem.W.keepIn K (.ref f) = true) : DefAt K x st := ⟨f, od, an, sl, oc, kV, dc, pm, cd, ct, a, l, c, k⟩
theorem DefAt.ok {K : PySem.W.Frag} {h : Heap} {mg : Str → Option Value} {e : Ent} (X : K.In h) (G : h.Ns mainGlobals mg) (d : DefAt K e.x e.st) (hb : ∀ (kV doc pm : Value) (an : Option Addr) (cdv ct : Value) (us : List Value), us.length = e.ps.length → bindArgs (PySem.W.fnOf e.x e.x (defArgs e.st) (defBody e.st) (defScope e.st) .none kV doc pm an cdv ct) ⟨us, []⟩ = pure (e.ps.zip us)) : ∃ f fd, DefOk K mg e f fd := by
  obtain ⟨f, od, an, sl, oc, kV, dc, pm, cd, ct, h1, h2, h3, h4⟩ := d
  have F := fun_mk (st := e.st) h2 h3 h4
  exact ⟨f, _, F, PySem.W.mg_of X G h1, F.binds hb⟩
theorem b_looks_so (kV doc pm : Value) (an : Option Addr) (cdv ct : Value) (us : List Value) (hl : us.length = e_looks_so.ps.length) : bindArgs (PySem.W.fnOf e_looks_so.x e_looks_so.x (defArgs e_looks_so.st) (defBody e_looks_so.st) (defScope e_looks_so.st) .none kV doc pm an cdv ct) ⟨us, []⟩ = pure (e_looks_so.ps.zip us) :=
  match us, hl with | [_, _], _ => rfl
theorem b_ones_in (kV doc pm : Value) (an : Option Addr) (cdv ct : Value) (us : List Value) (hl : us.length = e_ones_in.ps.length) : bindArgs (PySem.W.fnOf e_ones_in.x e_ones_in.x (defArgs e_ones_in.st) (defBody e_ones_in.st) (defScope e_ones_in.st) .none kV doc pm an cdv ct) ⟨us, []⟩ = pure (e_ones_in.ps.zip us) :=
  match us, hl with | [_], _ => rfl
theorem b_is_plan (kV doc pm : Value) (an : Option Addr) (cdv ct : Value) (us : List Value) (hl : us.length = e_is_plan.ps.length) : bindArgs (PySem.W.fnOf e_is_plan.x e_is_plan.x (defArgs e_is_plan.st) (defBody e_is_plan.st) (defScope e_is_plan.st) .none kV doc pm an cdv ct) ⟨us, []⟩ = pure (e_is_plan.ps.zip us) :=
  match us, hl with | [_], _ => rfl
theorem b_need_plan (kV doc pm : Value) (an : Option Addr) (cdv ct : Value) (us : List Value) (hl : us.length = e_need_plan.ps.length) : bindArgs (PySem.W.fnOf e_need_plan.x e_need_plan.x (defArgs e_need_plan.st) (defBody e_need_plan.st) (defScope e_need_plan.st) .none kV doc pm an cdv ct) ⟨us, []⟩ = pure (e_need_plan.ps.zip us) :=
  match us, hl with | [_], _ => rfl
theorem b_ties_of (kV doc pm : Value) (an : Option Addr) (cdv ct : Value) (us : List Value) (hl : us.length = e_ties_of.ps.length) : bindArgs (PySem.W.fnOf e_ties_of.x e_ties_of.x (defArgs e_ties_of.st) (defBody e_ties_of.st) (defScope e_ties_of.st) .none kV doc pm an cdv ct) ⟨us, []⟩ = pure (e_ties_of.ps.zip us) :=
  match us, hl with | [_, _], _ => rfl
theorem b_plan_web (kV doc pm : Value) (an : Option Addr) (cdv ct : Value) (us : List Value) (hl : us.length = e_plan_web.ps.length) : bindArgs (PySem.W.fnOf e_plan_web.x e_plan_web.x (defArgs e_plan_web.st) (defBody e_plan_web.st) (defScope e_plan_web.st) .none kV doc pm an cdv ct) ⟨us, []⟩ = pure (e_plan_web.ps.zip us) :=
  match us, hl with | [_], _ => rfl
theorem b__law_cell_at (kV doc pm : Value) (an : Option Addr) (cdv ct : Value) (us : List Value) (hl : us.length = e__law_cell_at.ps.length) : bindArgs (PySem.W.fnOf e__law_cell_at.x e__law_cell_at.x (defArgs e__law_cell_at.st) (defBody e__law_cell_at.st) (defScope e__law_cell_at.st) .none kV doc pm an cdv ct) ⟨us, []⟩ = pure (e__law_cell_at.ps.zip us) :=
  match us, hl with | [_, _], _ => rfl
theorem b__law_draw (kV doc pm : Value) (an : Option Addr) (cdv ct : Value) (us : List Value) (hl : us.length = e__law_draw.ps.length) : bindArgs (PySem.W.fnOf e__law_draw.x e__law_draw.x (defArgs e__law_draw.st) (defBody e__law_draw.st) (defScope e__law_draw.st) .none kV doc pm an cdv ct) ⟨us, []⟩ = pure (e__law_draw.ps.zip us) :=
  match us, hl with | [_, _, _], _ => rfl
theorem b__law_plan (kV doc pm : Value) (an : Option Addr) (cdv ct : Value) (us : List Value) (hl : us.length = e__law_plan.ps.length) : bindArgs (PySem.W.fnOf e__law_plan.x e__law_plan.x (defArgs e__law_plan.st) (defBody e__law_plan.st) (defScope e__law_plan.st) .none kV doc pm an cdv ct) ⟨us, []⟩ = pure (e__law_plan.ps.zip us) :=
  match us, hl with | [_, _, _], _ => rfl
theorem b__law_web_of (kV doc pm : Value) (an : Option Addr) (cdv ct : Value) (us : List Value) (hl : us.length = e__law_web_of.ps.length) : bindArgs (PySem.W.fnOf e__law_web_of.x e__law_web_of.x (defArgs e__law_web_of.st) (defBody e__law_web_of.st) (defScope e__law_web_of.st) .none kV doc pm an cdv ct) ⟨us, []⟩ = pure (e__law_web_of.ps.zip us) :=
  match us, hl with | [_], _ => rfl
theorem b__law_plan_web (kV doc pm : Value) (an : Option Addr) (cdv ct : Value) (us : List Value) (hl : us.length = e__law_plan_web.ps.length) : bindArgs (PySem.W.fnOf e__law_plan_web.x e__law_plan_web.x (defArgs e__law_plan_web.st) (defBody e__law_plan_web.st) (defScope e__law_plan_web.st) .none kV doc pm an cdv ct) ⟨us, []⟩ = pure (e__law_plan_web.ps.zip us) :=
  match us, hl with | [_], _ => rfl
theorem b_law (kV doc pm : Value) (an : Option Addr) (cdv ct : Value) (us : List Value) (hl : us.length = e_law.ps.length) : bindArgs (PySem.W.fnOf e_law.x e_law.x (defArgs e_law.st) (defBody e_law.st) (defScope e_law.st) .none kV doc pm an cdv ct) ⟨us, []⟩ = pure (e_law.ps.zip us) :=
  match us, hl with | [_], _ => rfl
theorem b__law_class (kV doc pm : Value) (an : Option Addr) (cdv ct : Value) (us : List Value) (hl : us.length = e__law_class.ps.length) : bindArgs (PySem.W.fnOf e__law_class.x e__law_class.x (defArgs e__law_class.st) (defBody e__law_class.st) (defScope e__law_class.st) .none kV doc pm an cdv ct) ⟨us, []⟩ = pure (e__law_class.ps.zip us) :=
  match us, hl with | [_], _ => rfl
theorem b__law_refused (kV doc pm : Value) (an : Option Addr) (cdv ct : Value) (us : List Value) (hl : us.length = e__law_refused.ps.length) : bindArgs (PySem.W.fnOf e__law_refused.x e__law_refused.x (defArgs e__law_refused.st) (defBody e__law_refused.st) (defScope e__law_refused.st) .none kV doc pm an cdv ct) ⟨us, []⟩ = pure (e__law_refused.ps.zip us) :=
  match us, hl with | [_], _ => rfl
/-- a class of errors of the text -/
def ExcAt (K : PySem.W.Frag) (x : Str) : Prop := ∃ C : Addr, PySem.W.nsIn K mainGlobals x = some (some (.ref C)) ∧ PySem.W.excIn K C [.type "ValueError", .type "Exception", .type "BaseException", .type "object"] "ValueError.__new__" = true ∧ PySem.W.keepIn K (.ref C) = true ∧
  PySem.W.subIn K (.ref C) (.type "BaseException") = some true ∧ PySem.W.typeIn K (.ref C) = some (.type "type")
theorem excAt_mk {K : PySem.W.Frag} {x : Str} {C : Addr} (a : PySem.W.nsIn K mainGlobals x = some (some (.ref C))) (b : PySem.W.excIn K C [.type "ValueError", .type "Exception", .type "BaseException", .type "object"] "ValueError.__new__" = true) (c : PySem.W.keepIn K (.ref C) = true)
    (d : PySem.W.subIn K (.ref C) (.type "BaseException") = some true) (e : PySem.W.typeIn K (.ref C) = some (.type "type")) : ExcAt K x := ⟨C, a, b, c, d, e⟩
theorem ExcAt.ok {K : PySem.W.Frag} {h : Heap} {mg : Str → Option Value} {x : Str} {n : String} (X : K.In h) (G : h.Ns mainGlobals mg) (e : x = Str.ofString n) (d : ExcAt K x) : ∃ C : Addr, x = Str.ofString n ∧ mg x = some (.ref C) ∧ PySem.W.excIn K C [.type "ValueError", .type "Exception", .type "BaseException", .type "object"] "ValueError.__new__" = true ∧ PySem.W.keepIn K (.ref C) = true ∧
    PySem.W.subIn K (.ref C) (.type "BaseException") = some true ∧ PySem.W.typeIn K (.ref C) = some (.type "type") := by
  obtain ⟨C, h1, h2, h3, h4, h5⟩ := d
  exact ⟨C, e, PySem.W.mg_of X G h1, h2, h3, h4, h5⟩
theorem tokAt_mk {p : Tok → Prop} {u : Tok} (q : p u) : ∃ u : Tok, p u := ⟨u, q⟩
def LookP (α β : Type) [BEq α] (p : α → β → Prop) : List (α × β) → Prop
  | [] => True
  | (x, y) :: r => p x y ∧ LookP α β p r
theorem lookP {α β : Type} [BEq α] [LawfulBEq α] {p : α → β → Prop} : ∀ {l : List (α × β)}, LookP α β p l → ∀ x y, l.lookup x = some y → p x y
  | [], _, x, y, h => by cases h
  | (a, b) :: r, ⟨h1, h2⟩, x, y, h => by
    rw [List.lookup_cons] at h
    split at h
    · rename_i e
      cases h
      have e : x = a := by simpa using e
      rw [e]; exact h1
    · exact lookP h2 x y h
theorem modOk {K : PySem.W.Frag} {u_MOST_ONES : Tok} {u_MOST_DEEP : Tok} {a_ONE : Addr} {od_ONE : Option Addr} {sl_ONE : Array (Option Value)} {n_ONE : Nat} {k_ONE_0 : Tok} {h : Heap} {mg : Str → Option Value} (X : K.In h) (G : h.Ns mainGlobals mg) (d_looks_so : DefAt K (Str.ofString "looks_so") (topS 18)) (d_ones_in : DefAt K (Str.ofString "ones_in") (topS 19)) (d_is_plan : DefAt K (Str.ofString "is_plan") (topS 20)) (d_need_plan : DefAt K (Str.ofString "need_plan") (topS 21)) (d_ties_of : DefAt K (Str.ofString "ties_of") (topS 22)) (d_plan_web : DefAt K (Str.ofString "plan_web") (topS 23)) (d__law_cell_at : DefAt K (Str.ofString "_law_cell_at") (topS 25)) (d__law_draw : DefAt K (Str.ofString "_law_draw") (topS 26)) (d__law_plan : DefAt K (Str.ofString "_law_plan") (topS 27)) (d__law_web_of : DefAt K (Str.ofString "_law_web_of") (topS 28)) (d__law_plan_web : DefAt K (Str.ofString "_law_plan_web") (topS 29)) (v_MOST_ONES : PySem.W.nsIn K mainGlobals (Str.ofString "MOST_ONES") = some (some (Value.int 40 u_MOST_ONES))) (v_MOST_DEEP : PySem.W.nsIn K mainGlobals (Str.ofString "MOST_DEEP") = some (some (Value.int 24 u_MOST_DEEP))) (v_ONE : PySem.W.nsIn K mainGlobals (Str.ofString "ONE") = some (some (Value.ref a_ONE))) (w_ONE : K.lookup a_ONE = some ⟨Value.type "tuple", od_ONE, .seq #[Value.str (Str.ofString "one") k_ONE_0] n_ONE, sl_ONE⟩) (x_NoPlan : ExcAt K (Str.ofString "NoPlan")) (z_all : PySem.W.nsIn K mainGlobals (Str.ofString "all") = some none) (z_sum : PySem.W.nsIn K mainGlobals (Str.ofString "sum") = some none) (z_range : PySem.W.nsIn K mainGlobals (Str.ofString "range") = some none) (z_len : PySem.W.nsIn K mainGlobals (Str.ofString "len") = some none) (z_list : PySem.W.nsIn K mainGlobals (Str.ofString "list") = some none) (z_tuple : PySem.W.nsIn K mainGlobals (Str.ofString "tuple") = some none) (z_isinstance : PySem.W.nsIn K mainGlobals (Str.ofString "isinstance") = some none) (z_max : PySem.W.nsIn K mainGlobals (Str.ofString "max") = some none) (z_str : PySem.W.nsIn K mainGlobals (Str.ofString "str") = some none) (z_sorted : PySem.W.nsIn K mainGlobals (Str.ofString "sorted") = some none) (z_min : PySem.W.nsIn K mainGlobals (Str.ofString "min") = some none) : ModOk K mg tConsts tExcs tBns ∧ ∀ e, e ∈ tEs → ∃ f fd, DefOk K mg e f fd := by
  refine ⟨⟨?_, ?_, ?_⟩, ?_⟩
  · exact lookP (l := tConsts) (p := fun x d => ∃ u v, mg x = some u ∧ RelV v u ∧ ∀ H A, Rep K H A d v) ⟨⟨_, toV ((.int 40)), PySem.W.mg_of X G v_MOST_ONES, ⟨_, rfl⟩, fun _ _ => rep_atom rfl⟩, ⟨_, toV ((.int 24)), PySem.W.mg_of X G v_MOST_DEEP, ⟨_, rfl⟩, fun _ _ => rep_atom rfl⟩, ⟨_, .ref a_ONE, PySem.W.mg_of X G v_ONE, rfl, fun _ _ => .tup (vs := [toV (.str (Str.ofString "one"))]) (.inr ⟨_, _, _, w_ONE, rfl, rfl, (by show 1 ≤ sizeLine; decide), (.cons ⟨_, rfl⟩ .nil)⟩) (.cons (rep_atom rfl) .nil)⟩, trivial⟩
  · exact lookP (l := tExcs) ⟨x_NoPlan.ok X G rfl, trivial⟩
  · intro x hx
    simp only [tBns, List.mem_cons, List.not_mem_nil, or_false] at hx
    rcases hx with rfl | rfl | rfl | rfl | rfl | rfl | rfl | rfl | rfl | rfl | rfl
    · exact PySem.W.mg_none_of X G z_all
    · exact PySem.W.mg_none_of X G z_sum
    · exact PySem.W.mg_none_of X G z_range
    · exact PySem.W.mg_none_of X G z_len
    · exact PySem.W.mg_none_of X G z_list
    · exact PySem.W.mg_none_of X G z_tuple
    · exact PySem.W.mg_none_of X G z_isinstance
    · exact PySem.W.mg_none_of X G z_max
    · exact PySem.W.mg_none_of X G z_str
    · exact PySem.W.mg_none_of X G z_sorted
    · exact PySem.W.mg_none_of X G z_min
  · exact allE ⟨DefAt.ok (e := e_looks_so) X G d_looks_so b_looks_so, DefAt.ok (e := e_ones_in) X G d_ones_in b_ones_in, DefAt.ok (e := e_is_plan) X G d_is_plan b_is_plan, DefAt.ok (e := e_need_plan) X G d_need_plan b_need_plan, DefAt.ok (e := e_ties_of) X G d_ties_of b_ties_of, DefAt.ok (e := e_plan_web) X G d_plan_web b_plan_web, DefAt.ok (e := e__law_cell_at) X G d__law_cell_at b__law_cell_at, DefAt.ok (e := e__law_draw) X G d__law_draw b__law_draw, DefAt.ok (e := e__law_plan) X G d__law_plan b__law_plan, DefAt.ok (e := e__law_web_of) X G d__law_web_of b__law_web_of, DefAt.ok (e := e__law_plan_web) X G d__law_plan_web b__law_plan_web, trivial⟩
theorem refM {K : PySem.W.Frag} {CF : Addr} {h : Heap} {mg : Str → Option Value} (X : K.In h) (G : h.Ns mainGlobals mg) (d__law_class : DefAt K (Str.ofString "_law_class") (topS 30)) (d__law_refused : DefAt K (Str.ofString "_law_refused") (topS 31)) (f_few : PySem.W.nsIn K mainGlobals "FewError" = some (some (.ref CF))) (z2_isinstance : PySem.W.nsIn K mainGlobals "isinstance" = some none) (c_NoPlan : ClsFact K "FewError" (Str.ofString "NoPlan") is_NoPlan) : RefM K mg (Str.ofString "_law_refused") c_words := by
  refine refM_mk X G (eR := e__law_refused) (eC := e__law_class) (y := "_law_error") ⟨"_law_call", "_law_word", "_law_error", "FewError", "_law_class"⟩ f_few (DefAt.ok (e := e__law_refused) X G d__law_refused b__law_refused) (DefAt.ok (e := e__law_class) X G d__law_class b__law_class) rfl rfl rfl (by decide +kernel) (by kernel_rfl) (by decide +kernel) (by decide +kernel) z2_isinstance (by decide +kernel) ?_
  exact lookP (l := c_words) (p := fun n w => ∃ is, ClsFact K "FewError" (Str.ofString n) is ∧ exK ⟨defScope e__law_class.st, e__law_class.N, true, [], [], [], [], none⟩ is 100 (some .exc :: (e__law_class.N.drop 1).map fun _ => none) (defBody e__law_class.st) = some (.str w)) ⟨⟨is_NoPlan, c_NoPlan, isx_NoPlan⟩, trivial⟩
end L3
open PySem PySem.W PyProof.Rows
set_option maxHeartbeats 0 in
theorem PySem.Challenge.cw_fewways_k42_webs_of_plans_holds : PySem.Challenge.rw_fewways_k42_webs_of_plans.Holds := by
  w_on; o_law; k_head; (case hw => w_witness2)
  k_fill
  refine LamX.walk_ofTs (l := PySem.Challenge.rw_fewways_k42_webs_of_plans) (n := 63) (k := 43) (x := "_law_script") (CX := fun w => L2.CX PySem.Challenge.rw_fewways_k42_webs_of_plans.prog w) rfl (by decide) rfl ⟨rfl, by decide, by decide⟩ (fun w h Y => PySem.W.km_in_of Y) ?F ?E
  case F =>
    intro w mg fa h Y KX G hmg
    refine' (fun M La Mr => L3.lawAtS (T := L3.tTab) (e := L3.e_law) KX G hmg La rfl L3.b_law L3.tTabOk L3.tOk M.1 M.2 Mr L3.t_law (by kernel_rfl) L3.law_true) (L3.modOk KX G ?d_looks_so ?d_ones_in ?d_is_plan ?d_need_plan ?d_ties_of ?d_plan_web ?d__law_cell_at ?d__law_draw ?d__law_plan ?d__law_web_of ?d__law_plan_web ?v_MOST_ONES ?v_MOST_DEEP ?v_ONE ?w_ONE ?x_NoPlan ?z_all ?z_sum ?z_range ?z_len ?z_list ?z_tuple ?z_isinstance ?z_max ?z_str ?z_sorted ?z_min) ?la (L3.refM KX G ?d__law_class ?d__law_refused ?f_few ?z2_isinstance ?c_NoPlan)
    (case la => (refine' L3.lawAt_mk ?la1 ?la2 ?la3 ?la4 ?la5 ?la6 ?la7 ?la8; (case la1 => k_is); (case la2 => k_is); (case la3 => k_is); (case la4 => k_is); (case la5 => exact rfl); (case la6 => first | exact rfl | kernel_rfl); (case la7 => first | exact rfl | kernel_rfl); (case la8 => exact PySem.W.km_tabs_of Y _ (by simp))))
    (case d_looks_so => (refine' L3.defAt_mk ?a ?l ?c ?k; (case a => k_is); (case l => k_is); (case c => k_is); (case k => k_is)))
    (case d_ones_in => (refine' L3.defAt_mk ?a ?l ?c ?k; (case a => k_is); (case l => k_is); (case c => k_is); (case k => k_is)))
    (case d_is_plan => (refine' L3.defAt_mk ?a ?l ?c ?k; (case a => k_is); (case l => k_is); (case c => k_is); (case k => k_is)))
    (case d_need_plan => (refine' L3.defAt_mk ?a ?l ?c ?k; (case a => k_is); (case l => k_is); (case c => k_is); (case k => k_is)))
    (case d_ties_of => (refine' L3.defAt_mk ?a ?l ?c ?k; (case a => k_is); (case l => k_is); (case c => k_is); (case k => k_is)))
    (case d_plan_web => (refine' L3.defAt_mk ?a ?l ?c ?k; (case a => k_is); (case l => k_is); (case c => k_is); (case k => k_is)))
    (case d__law_cell_at => (refine' L3.defAt_mk ?a ?l ?c ?k; (case a => k_is); (case l => k_is); (case c => k_is); (case k => k_is)))
    (case d__law_draw => (refine' L3.defAt_mk ?a ?l ?c ?k; (case a => k_is); (case l => k_is); (case c => k_is); (case k => k_is)))
    (case d__law_plan => (refine' L3.defAt_mk ?a ?l ?c ?k; (case a => k_is); (case l => k_is); (case c => k_is); (case k => k_is)))
    (case d__law_web_of => (refine' L3.defAt_mk ?a ?l ?c ?k; (case a => k_is); (case l => k_is); (case c => k_is); (case k => k_is)))
    (case d__law_plan_web => (refine' L3.defAt_mk ?a ?l ?c ?k; (case a => k_is); (case l => k_is); (case c => k_is); (case k => k_is)))
    (case v_MOST_ONES => k_is)
    (case v_MOST_DEEP => k_is)
    (case v_ONE => k_is)
    (case w_ONE => k_is)
    (case x_NoPlan => (refine' L3.excAt_mk ?a ?x ?k ?s ?t; (case a => k_is); (case x => first | k_exc | k_is); (case k => k_is); (case s => k_is); (case t => k_is)))
    (case z_all => k_is)
    (case z_sum => k_is)
    (case z_range => k_is)
    (case z_len => k_is)
    (case z_list => k_is)
    (case z_tuple => k_is)
    (case z_isinstance => k_is)
    (case z_max => k_is)
    (case z_str => k_is)
    (case z_sorted => k_is)
    (case z_min => k_is)
    (case d__law_class => (refine' L3.defAt_mk ?a ?l ?c ?k; (case a => k_is); (case l => k_is); (case c => k_is); (case k => k_is)))
    (case d__law_refused => (refine' L3.defAt_mk ?a ?l ?c ?k; (case a => k_is); (case l => k_is); (case c => k_is); (case k => k_is)))
    (case f_few => k_is)
    (case z2_isinstance => k_is)
    (case c_NoPlan => (refine' L3.clsFact_mk ?a ?b ?m ?e1 ?e2 ?e3 ?e4 ?e5 ?e6 ?e7 ?e8 ⟨L3.isAt_cls ?p0 ?q0, L3.isAt_val ?p1 ?q1, L3.isAt_cls ?p2 ?q2, L3.isAt_cls ?p3 ?q3, L3.isAt_cls ?p4 ?q4, L3.isAt_cls ?p5 ?q5, L3.isAt_cls ?p6 ?q6, L3.isAt_cls ?p7 ?q7, L3.isAt_cls ?p8 ?q8, L3.isAt_cls ?p9 ?q9, L3.isAt_cls ?p10 ?q10, L3.isAt_cls ?p11 ?q11, L3.isAt_cls ?p12 ?q12, L3.isAt_cls ?p13 ?q13, trivial⟩; (case a => k_is); (case b => k_is); (case m => kts_exm); (case e1 => k_is); (case e2 => k_is); (case e3 => k_is); (case e4 => k_is); (case e5 => k_is); (case e6 => k_is); (case e7 => k_is); (case e8 => k_is); (case p0 => k_is); (case q0 => kit_is); (case p1 => k_is); (case q1 => kit_is); (case p2 => k_is); (case q2 => kit_is); (case p3 => k_is); (case q3 => kit_is); (case p4 => k_is); (case q4 => kit_is); (case p5 => k_is); (case q5 => kit_is); (case p6 => k_is); (case q6 => kit_is); (case p7 => k_is); (case q7 => kit_is); (case p8 => k_is); (case q8 => kit_is); (case p9 => k_is); (case q9 => kit_is); (case p10 => k_is); (case q10 => kit_is); (case p11 => k_is); (case q11 => kit_is); (case p12 => k_is); (case q12 => kit_is); (case p13 => k_is); (case q13 => kit_is)))
  case E =>
    intro w H s e s2 h
    obtain ⟨_, _, _, _, _, _, _, _, _, _, _, _, z⟩ := h
    exact z
