import PyProof.Rows.All
import Wide.All
import OpenK.AllK
import Wide.FinOn
import HandS.ForMost
import HandS.ForExc
import HandS.CallSlots
import HandS.Conv
import HandS.TupAny
import HandS.TupMul
import HandS.Deep
import HandS.IsInst
import HandS.Style
import HandS.Zip
import HandS.Defaults
import HandS.NoneIn
import HandS.Lambda
import HandS.HeadHook4
import HandS.List
import HandS.SetFor
import HandS.Strs
import KE.GoesNew
import KE.GoesMore
import HandS.More
import HandS.Star
import HandS.ExcCtx
import HandS.ExcIs
import HandS.GenList
import HandS.MethStar
import HandS.MakeKwOnly
import HandS.Property
import HandS.ClsMeth
import HandS.SlotsOwn
import HandS.HeadNt
import HandS.Codes
import HandS.Comp
import HandS.Hot
import KE.KUnpack
import KE.KStateDown
import HandS.Head0
import HandS.Head1
import HandS.Head2
import HandS.HeadEnd
import HandS.HeadHook1
import HandS.HeadHook2
import HandS.HeadWalk
import KE.KNestM
import PySem.Challenge.RW_printjobs_k16_whole_words_in_two_parts
set_option Elab.async false
set_option linter.all false
set_option maxRecDepth 100000
/-! the evaluator: plain data, a store of mutable lists and dicts, an IR and what it computes -/
namespace EV
open PySem PySem.Spec PyProof.Rows L2

/-- plain values; lst is a list that nobody will change, loc a mutable thing of the store, scr the script -/
inductive D where
  | non | bl (b : Bool) | int (i : Int) | str (x : Str) | tup (xs : List D) | lst (xs : List D) | scr (ns : List Int) | loc (n : Nat) | adr (a : Addr) | gf (i : Nat) (x : Str)

inductive Cell where
  | lst (xs : List D) | dct (kvs : List (Key × D)) | ins (fs : List (Str × D))   -- an instance of Pile
abbrev Sto := List Cell
abbrev Env := List (Option D)

mutual
/-- no place of the store in it -/
def noloc : D → Bool
  | .loc _ => false
  | .gf _ _ => false
  | .tup xs => nolocs xs
  | .lst xs => nolocs xs
  | _ => true
def nolocs : List D → Bool
  | [] => true
  | x :: xs => noloc x && nolocs xs
end
mutual
def toPy : D → PyData
  | .non => .none
  | .bl b => .bool b
  | .int i => .int i
  | .str x => .str x
  | .tup xs => .tuple (toPys xs)
  | .lst xs => .list (toPys xs)
  | .scr _ => .none
  | .adr _ => .none
  | .gf _ _ => .none
  | .loc _ => .none
def toPys : List D → List PyData
  | [] => []
  | x :: xs => toPy x :: toPys xs
end
mutual
/-- may be compared as data -/
def cmpable : D → Bool
  | .loc _ => false
  | .scr _ => false
  | .adr _ => false
  | .gf _ _ => false
  | .tup xs => cmpables xs
  | .lst xs => cmpables xs
  | _ => true
def cmpables : List D → Bool
  | [] => true
  | x :: xs => cmpable x && cmpables xs
end
def Cell.data : Cell → List D
  | .lst xs => xs
  | .dct kvs => kvs.map (·.2)
  | .ins fs => fs.map (·.2)

/-- what comes of an evaluation: a value, or an exception of a class -/
inductive Out (α : Type) where
  | ok (a : α) (s : Sto) | exc (k : Nat) (s : Sto)
def bnd {α β : Type} (x : Option (Out α)) (f : α → Sto → Option (Out β)) : Option (Out β) :=
  match x with
  | some (.ok a s) => f a s
  | some (.exc k s) => some (.exc k s)
  | none => none
/-- a pure step -/
def pur (s : Sto) (x : Option D) : Option (Out D) :=
  match x with
  | some d => some (.ok d s)
  | none => none

/-! ### operations on values -/
/-- the content of a loc that is a list; else itself -/
def deref (s : Sto) : D → D
  | .loc n => match s[n]? with
    | some (.lst xs) => .lst xs
    | _ => .loc n
  | d => d
inductive BO where
  | add | sub | mul | fdiv | mod | pow
inductive CO where
  | lt | le | gt | ge | eq | ne | isin | notin | is_ | isnot
inductive Ty where
  | int | bool | str | tuple | list
def addD (s : Sto) (a b : D) : Option D :=
  match a, b with
  | .int i, .int j => some (.int (i + j))
  | .tup xs, .tup ys => if xs.length + ys.length ≤ sizeLine then some (.tup (xs ++ ys)) else none
  | a, b => match deref s a, deref s b with
    | .lst xs, .lst ys => if xs.length + ys.length ≤ sizeLine then some (.lst (xs ++ ys)) else none
    | _, _ => none
instance (i j : Int) : Decidable (CMul i j) := by unfold CMul; infer_instance
instance (i j : Int) : Decidable (CDivN i j) := by unfold CDivN; infer_instance
instance (i j : Int) : Decidable (CPow i j) := by unfold CPow; infer_instance
def mulD (s : Sto) (a b : D) : Option D :=
  match a, b with
  | .int i, .int j => if CMul i j then some (.int (i * j)) else none
  | .tup xs, .int k => if xs ≠ [] ∧ 2 ≤ k ∧ k ≤ 1000 ∧ xs.length ≤ 1000 then some (.tup (List.replicate k.toNat xs).flatten) else none
  | a, .int k => match deref s a with
    | .lst xs => if -(2 ^ 63) ≤ k ∧ k < 2 ^ 63 ∧ xs.length * k.toNat ≤ sizeLine then some (.lst (List.replicate k.toNat xs).flatten) else none
    | _ => none
  | _, _ => none
def binD (o : BO) (s : Sto) (a b : D) : Option D :=
  match o with
  | .add => addD s a b
  | .mul => mulD s a b
  | .sub => match a, b with
    | .int i, .int j => some (.int (i - j))
    | _, _ => none
  | .fdiv => match a, b with
    | .int i, .int j => if CDivN i j then some (.int (i.fdiv j)) else none
    | _, _ => none
  | .mod => match a, b with
    | .int i, .int j => if j ≠ 0 then some (.int (i.fmod j)) else none
    | _, _ => none
  | .pow => match a, b with
    | .int i, .int j => if CPow i j then some (.int (i ^ j.toNat)) else none
    | _, _ => none
def okD (d : D) : Bool := cmpable d && SeqAt.shaped (toPy d)
def eqD (s : Sto) (a b : D) : Option Bool :=
  if okD (deref s a) && okD (deref s b) then some (PyData.eqv (toPy (deref s a)) (toPy (deref s b))) else none
def flatD : D → Bool
  | .non => true | .bl _ => true | .int _ => true | .str _ => true | _ => false
def keyD : D → Option Key
  | .int i => some (.inl i)
  | .str x => some (.inr x)
  | _ => none
def getK (kvs : List (Key × D)) (k : Key) : Option D := (kvs.find? fun kv => decide (kv.1 = k)).map (·.2)
def setK (kvs : List (Key × D)) (k : Key) (v : D) : List (Key × D) :=
  if kvs.any fun kv => decide (kv.1 = k) then kvs.map fun kv => if kv.1 = k then (kv.1, v) else kv else kvs ++ [(k, v)]
def inD (s : Sto) (a b : D) : Option Bool :=
  match b with
  | .tup ys => if flatD a && ys.all flatD then some (ys.any fun y => PyData.eqv (toPy y) (toPy a)) else none
  | b => match deref s b with
    | .lst ys => if okD a && okD (.lst ys) then some (ys.any fun y => PyData.eqv (toPy y) (toPy a)) else none
    | .loc n => match s[n]?, keyD a with
      | some (.dct kvs), some k => some (getK kvs k).isSome
      | _, _ => none
    | _ => none
def isD : D → D → Option Bool
  | .non, .non => some true
  | .bl _, .non => some false
  | .int _, .non => some false
  | .str _, .non => some false
  | .tup _, .non => some false
  | .lst _, .non => some false
  | .scr _, .non => some false
  | .loc _, .non => some false
  | .bl a, .bl b => some (decide (a = b))
  | _, _ => none
def cmpD (o : CO) (s : Sto) (a b : D) : Option Bool :=
  match o with
  | .lt => match a, b with
    | .int i, .int j => some (decide (i < j))
    | _, _ => none
  | .le => match a, b with
    | .int i, .int j => some (decide (i ≤ j))
    | _, _ => none
  | .gt => match a, b with
    | .int i, .int j => some (decide (j < i))
    | _, _ => none
  | .ge => match a, b with
    | .int i, .int j => some (decide (j ≤ i))
    | _, _ => none
  | .eq => eqD s a b
  | .ne => (eqD s a b).map (!·)
  | .isin => inD s a b
  | .notin => (inD s a b).map (!·)
  | .is_ => isD a b
  | .isnot => (isD a b).map (!·)
/-- a dict's value at a key -/
def dctD (s : Sto) (a i : D) : Option D :=
  match a with
  | .loc n => match s[n]?, keyD i with
    | some (.dct kvs), some k => getK kvs k
    | _, _ => none
  | _ => none
def idxD (s : Sto) (a i : D) : Option D :=
  match i with
  | .int k => match a with
    | .tup xs => atI xs k
    | .scr ns => (atI ns k).map .int
    | a => match deref s a with
      | .lst xs => atI xs k
      | _ => dctD s a (.int k)
  | .str x => dctD s a (.str x)
  | _ => none
def isTy (t : Ty) : D → Option Bool
  | .non => some false
  | .bl _ => some (match t with | .int => true | .bool => true | _ => false)
  | .int _ => some (match t with | .int => true | _ => false)
  | .str _ => some (match t with | .str => true | _ => false)
  | .tup _ => some (match t with | .tuple => true | _ => false)
  | .lst _ => some (match t with | .list => true | _ => false)
  | .loc _ => none
  | .scr _ => none
  | .adr _ => none
  | .gf _ _ => none
def isTys : List Ty → D → Option Bool
  | [], _ => some false
  | t :: ts, d => match isTy t d with
    | some true => some true
    | some false => isTys ts d
    | none => none
/-- a slice, step 1 -/
def cutD (xs : List D) (lo hi : Option Int) : List D := (xs.drop (HT.sIx xs.length 0 lo)).take (HT.sIx xs.length xs.length hi - HT.sIx xs.length 0 lo)
def slcD (s : Sto) (a : D) (lo hi : Option Int) : Option D :=
  match a with
  | .tup xs => some (.tup (cutD xs lo hi))
  | a => match deref s a with
    | .lst xs => some (.lst (cutD xs lo hi))
    | _ => none
def revTD : D → Option D
  | .tup xs => some (.tup xs.reverse)
  | _ => none
def revD (s : Sto) (a : D) : Option D :=
  match deref s a with
  | .lst xs => some (.lst xs.reverse)
  | _ => none
def intsOf : List D → Option (List Int)
  | [] => some []
  | .int i :: r => (intsOf r).map (i :: ·)
  | _ :: _ => none
def blsOf : List D → Option (List Bool)
  | [] => some []
  | .bl i :: r => (blsOf r).map (i :: ·)
  | _ :: _ => none
def maxI : Int → List Int → Int
  | m, [] => m
  | m, x :: r => maxI (if m < x then x else m) r
def minI : Int → List Int → Int
  | m, [] => m
  | m, x :: r => minI (if x < m then x else m) r
inductive BI where
  | len | int | max | min | sum | all | list | tuple | repr
/-- items of a list or a tuple -/
def seqOf (s : Sto) (a : D) : Option (List D) :=
  match a with
  | .tup xs => some xs
  | a => match deref s a with
    | .lst xs => some xs
    | _ => none
def lenD (s : Sto) : D → Option D
  | .scr ns => some (.int ns.length)
  | a => (seqOf s a).map fun xs => .int xs.length
def intD : D → Option D
  | .int i => some (.int i)
  | .bl k => some (.int (if k then 1 else 0))
  | _ => none
/-- a list of ints -/
def intsD (s : Sto) (a : D) : Option (List Int) :=
  match deref s a with
  | .lst xs => intsOf xs
  | _ => none
def blsD (s : Sto) (a : D) : Option (List Bool) :=
  match deref s a with
  | .lst xs => blsOf xs
  | _ => none
/-- every second one -/
def evenL {α : Type} : List α → List α
  | [] => []
  | [x] => [x]
  | x :: _ :: r => x :: evenL r
/-- xs[i::2] -/
def stpD (s : Sto) (a i : D) : Option D :=
  match deref s a, i with
  | .lst xs, .int k => if 0 ≤ k then some (.lst (evenL (xs.drop k.toNat))) else none
  | _, _ => none
def ixI (i : Int) : List Int → Option Nat
  | [] => none
  | n :: r => if n = i then some 0 else (ixI i r).map (· + 1)
def isSq (s : Sto) (a : D) : Bool :=
  match deref s a with
  | .lst _ => true
  | _ => false
/-- xs.index(i), ints -/
def lixD (s : Sto) (a i : D) : Option D :=
  match intsD s a, i with
  | some ns, .int k => (ixI k ns).map fun j => .int (j : Nat)
  | _, _ => none
/-- len(set(xs)) of ints -/
def dedI (ns : List Int) : List Int := ns.foldl step_dedup []
def insU (x : Int) : List Int → List Int
  | [] => [x]
  | y :: r => if x < y then x :: y :: r else if x = y then y :: r else y :: insU x r
def srtI (ns : List Int) : List Int := ns.foldr insU []
def srtD (s : Sto) (a : D) : Option D :=
  match intsD s a with
  | some ns => if ns.length < 60 then some (.lst ((srtI ns).map .int)) else none
  | none => none
def dstD (s : Sto) (a : D) : Option D :=
  match intsD s a with
  | some ns => if ns.length ≤ 4000 then some (.int (dedI ns).length) else none
  | none => none
def max2D : D → D → Option D
  | .int i, .int j => some (.int (if j > i then j else i))
  | _, _ => none
def min2D : D → D → Option D
  | .int i, .int j => some (.int (if j < i then j else i))
  | _, _ => none
def maxD (s : Sto) (a : D) : Option D :=
  match intsD s a with
  | some (x :: r) => some (.int (maxI x r))
  | _ => none
def minD (s : Sto) (a : D) : Option D :=
  match intsD s a with
  | some (x :: r) => some (.int (minI x r))
  | _ => none
def reprD : D → Option D
  | .bl k => some (.str (if k then "True" else "False"))
  | _ => none
def bi1 (b : BI) (s : Sto) (a : D) : Option D :=
  match b with
  | .len => lenD s a
  | .int => intD a
  | .max => maxD s a
  | .min => minD s a
  | .sum => (intsD s a).map fun ns => .int ns.sum
  | .all => (blsD s a).map fun bs => .bl (bs.all id)
  | .list => (seqOf s a).map .lst
  | .tuple => (seqOf s a).map .tup
  | .repr => reprD a
def bi2 (b : BI) (x y : D) : Option D :=
  match b with
  | .max => max2D x y
  | .min => min2D x y
  | _ => none
def biD (b : BI) (s : Sto) : List D → Option D
  | [a] => bi1 b s a
  | [a, b'] => bi2 b a b'
  | _ => none

/-! ### the IR -/
inductive E where
  | var (i : Nat) | cint (i : Int) | cstr (x : Str) | cbl (b : Bool) | cnon | g (i : Nat)
  | bin (o : BO) (a b : E) | neg (a : E) | not (a : E) | cmp (o : CO) (a b : E) | chn (o p : CO) (a b c : E) | chn3 (o p q : CO) (a b c d : E)
  | and (a b : E) | or (a b : E) | ite (c a b : E)
  | tup (es : E) | lst (m : Bool) (es : E) | nil | cons (a b : E)
  | call (f : Nat) (es : E) | err (f : Nat) (es : E) | bi (b : BI) (es : E) | isi (a : E) (ts : List Ty)
  | idx (a i : E) | slc (a lo hi : E) | rev (a : E) | stp (a i : E) | lix (a i : E)
  | lrng (a b : E)                               -- list(range(a, b))
  | dnew | lrng1 (a : E) | cpy (a : E) | dst (a : E) | revT (a : E)           -- {}, list(range(a)), a new list of a's items that will be changed
  | comp (own : List Nat) (tg : E) (elt it cond : E)
  | cpm (own : List Nat) (tg : E) (elt it cond : E)   -- the same, the list will be changed
  | wlk (own : List Nat) (f : Nat) (es : E) | lgn (f : Nat) (es : E)   -- [x for x in f(..)], list(f(..)), f a generator def
  | srt (a : E) | gf (i : Nat) (x : Str) | cav (k : Nat) (es : E) | isl (a : E)   -- sorted(set(a)), a def as a value, a call of one, isinstance(a, list)
  | fld (k : Str) (a : E) | mth (f : Nat) (a es : E) | msp (f : Nat) (a e : E) | prp (f : Nat) (a : E) | oln (f : Nat) (a : E)   -- a.k, a.m(es), a.m(*e), a property, len(a)
  | con0 (f : Nat) (c a : E) | con1 (f : Nat) (c a b : E) | cmt (f : Nat) (es : E) | oeq (ng : Bool) (f : Nat) (a b : E) | isp (a : E) | ccn (x : Str) (f : Nat)   -- Pile(..), a classmethod, ==, isinstance(a, Pile), a constant of Pile
  | itl (a : E) | it (a : E) | rng1 (a : E) | rng2 (a b : E) | rng3 (a b c : E) | enum (a : E) | zip (a b : E)
  | tnm (i : Nat) | ttp (es : E) | ps (a : E)

def bindS (ρ : Env) (i : Nat) (d : D) : Env := ρ.set i (some d)
mutual
/-- a target takes a value -/
def bindT : E → D → Env → Option Env
  | .tnm i, d, ρ => some (ρ.set i (some d))
  | .ttp es, .tup xs, ρ => bindTs es xs ρ
  | .ttp es, .lst xs, ρ => bindTs es xs ρ
  | _, _, _ => none
def bindTs : E → List D → Env → Option Env
  | .nil, [], ρ => some ρ
  | .cons a b, x :: xs, ρ => match bindT a x ρ with
    | some ρ' => bindTs b xs ρ'
    | none => none
  | _, _, _ => none
end
def wipeE (ρ : Env) : List Nat → Env
  | [] => ρ
  | v :: vs => (wipeE ρ vs).set v none
def compL (f : D → Sto → Option (Out (Option D))) : List D → Sto → Option (Out (List D))
  | [], s => some (.ok [] s)
  | x :: xs, s => match f x s with
    | some (.ok y s1) => match compL f xs s1 with
      | some (.ok ys s2) => some (.ok (match y with | some y => y :: ys | none => ys) s2)
      | _ => none
    | _ => none
def fresh (m : Bool) (xs : List D) (s : Sto) : Option (Out D) :=
  if xs.length ≤ sizeLine then (if m then some (.ok (.loc s.length) (s ++ [.lst xs])) else some (.ok (.lst xs) s)) else none
def rngL (a b : Int) : List D := (List.range (b - a).toNat).map fun i => D.int (a + (i : Nat))
def rngC (a c : Int) (n : Nat) : List D := (List.range n).map fun i => D.int (a + (i : Nat) * c)
def small62 (a : Int) : Prop := -(2 ^ 62) ≤ a ∧ a < 2 ^ 62
instance (a : Int) : Decidable (small62 a) := by unfold small62; infer_instance
instance (a b : Int) : Decidable (RgOk a b) := by unfold RgOk; infer_instance
/-- how many turns range(a, b, -1) has; other steps are not served -/
def enumL : Nat → List D → List D
  | _, [] => []
  | i, x :: r => .tup [.int i, x] :: enumL (i + 1) r
def zipL : List D → List D → List D
  | x :: xs, y :: ys => .tup [x, y] :: zipL xs ys
  | _, _ => []
abbrev CTb := Nat → List D → Sto → Option (Out D)
/-- a Pile -/
def pfields : List Str := ["start", "states", "shown"]
def isPil (s : Sto) : D → Bool
  | .loc n => match s[n]? with
    | some (.ins _) => true
    | _ => false
  | _ => false
def fldD (s : Sto) (a : D) (k : Str) : Option D :=
  match a with
  | .loc n => match s[n]? with
    | some (.ins fs) => fs.lookup k
    | _ => none
  | _ => none
def putD (f : Str) (v : D) : List (Str × D) → List (Str × D)
  | [] => [(f, v)]
  | (g, u) :: r => if g = f then (f, v) :: r else (g, u) :: putD f v r
def clsIs (ρ : Env) : E → Bool
  | .nil => true
  | .var k => match ρ[k]? with
    | some (some (.gf _ x)) => decide (x = "Pile")
    | _ => false
  | _ => false
/-- all that a generator hands out -/
def lstO : Option (Out D) → Option (Out D)
  | some (.ok (.lst ys) s) => some (.ok (.lst ys) s)
  | _ => none
/-- an __init__ is called at a new instance -/
def conK (CT : CTb) (f : Nat) (xs : List D) (s1 : Sto) : Option (Out D) := bnd (CT f (.loc s1.length :: xs) (s1 ++ [.ins []])) fun d s2 => match d with
  | .non => some (.ok (.loc s1.length) s2)
  | _ => none
/-- it must hand back a value -/
def okO : Option (Out D) → Option (Out D)
  | some (.ok d s) => some (.ok d s)
  | _ => none
mutual
def ev (CT : CTb) : E → Env → Sto → Option (Out D)
  | .var i, ρ, s => match ρ[i]? with
    | some (some d) => some (.ok d s)
    | _ => none
  | .cint i, _, s => some (.ok (.int i) s)
  | .cstr x, _, s => some (.ok (.str x) s)
  | .cbl b, _, s => some (.ok (.bl b) s)
  | .cnon, _, s => some (.ok .non s)
  | .g i, _, s => CT i [] s
  | .bin o a b, ρ, s => bnd (ev CT a ρ s) fun x s1 => bnd (ev CT b ρ s1) fun y s2 => pur s2 (binD o s2 x y)
  | .neg a, ρ, s => bnd (ev CT a ρ s) fun x s1 => match x with
    | .int i => some (.ok (.int (-i)) s1)
    | _ => none
  | .not a, ρ, s => bnd (ev CT a ρ s) fun x s1 => match x with
    | .bl k => some (.ok (.bl (!k)) s1)
    | _ => none
  | .cmp o a b, ρ, s => bnd (ev CT a ρ s) fun x s1 => bnd (ev CT b ρ s1) fun y s2 => pur s2 ((cmpD o s2 x y).map .bl)
  | .chn o p a b c, ρ, s => bnd (ev CT a ρ s) fun x s1 => bnd (ev CT b ρ s1) fun y s2 => match cmpD o s2 x y with
    | some true => bnd (ev CT c ρ s2) fun z s3 => pur s3 ((cmpD p s3 y z).map .bl)
    | some false => some (.ok (.bl false) s2)
    | none => none
  | .chn3 o p q a b c d, ρ, s => bnd (ev CT a ρ s) fun x s1 => bnd (ev CT b ρ s1) fun y s2 => match cmpD o s2 x y with
    | some true => bnd (ev CT c ρ s2) fun z s3 => match cmpD p s3 y z with
      | some true => bnd (ev CT d ρ s3) fun w s4 => pur s4 ((cmpD q s4 z w).map .bl)
      | some false => some (.ok (.bl false) s3)
      | none => none
    | some false => some (.ok (.bl false) s2)
    | none => none
  | .revT a, ρ, s => bnd (ev CT a ρ s) fun x s1 => pur s1 (revTD x)
  | .dst a, ρ, s => bnd (ev CT a ρ s) fun x s1 => pur s1 (dstD s1 x)
  | .and a b, ρ, s => bnd (ev CT a ρ s) fun x s1 => match x with
    | .bl true => ev CT b ρ s1
    | .bl false => some (.ok (.bl false) s1)
    | _ => none
  | .or a b, ρ, s => bnd (ev CT a ρ s) fun x s1 => match x with
    | .bl true => some (.ok (.bl true) s1)
    | .bl false => ev CT b ρ s1
    | _ => none
  | .ite c a b, ρ, s => bnd (ev CT c ρ s) fun x s1 => match x with
    | .bl true => ev CT a ρ s1
    | .bl false => ev CT b ρ s1
    | _ => none
  | .tup es, ρ, s => bnd (evs CT es ρ s) fun xs s1 => if xs.length ≤ sizeLine then some (.ok (.tup xs) s1) else none
  | .lst m es, ρ, s => bnd (evs CT es ρ s) fun xs s1 => fresh m xs s1
  | .call f es, ρ, s => bnd (evs CT es ρ s) fun xs s1 => CT f xs s1
  | .err f es, ρ, s => bnd (evs CT es ρ s) fun xs s1 => CT f xs s1
  | .bi b es, ρ, s => bnd (evs CT es ρ s) fun xs s1 => pur s1 (biD b s1 xs)
  | .isi a ts, ρ, s => bnd (ev CT a ρ s) fun x s1 => pur s1 ((isTys ts x).map .bl)
  | .idx a i, ρ, s => bnd (ev CT a ρ s) fun x s1 => bnd (ev CT i ρ s1) fun y s2 => pur s2 (idxD s2 x y)
  | .slc a lo hi, ρ, s => bnd (ev CT a ρ s) fun x s1 => bnd (evo CT lo ρ s1) fun l s2 => bnd (evo CT hi ρ s2) fun h s3 => pur s3 (slcD s3 x l h)
  | .rev a, ρ, s => bnd (ev CT a ρ s) fun x s1 => pur s1 (revD s1 x)
  | .stp a i, ρ, s => bnd (ev CT a ρ s) fun x s1 => bnd (ev CT i ρ s1) fun y s2 => pur s2 (stpD s2 x y)
  | .lix a i, ρ, s => bnd (ev CT a ρ s) fun x s1 => if isSq s1 x = true then bnd (ev CT i ρ s1) fun y s2 => pur s2 (lixD s2 x y) else none
  | .lrng a b, ρ, s => bnd (ev CT a ρ s) fun x s1 => bnd (ev CT b ρ s1) fun y s2 => match x, y with
    | .int i, .int j => if RgOk i j then some (.ok (.lst (rngL i j)) s2) else none
    | _, _ => none
  | .dnew, _, s => some (.ok (.loc s.length) (s ++ [.dct []]))
  | .lrng1 a, ρ, s => bnd (ev CT a ρ s) fun x s1 => match x with
    | .int j => if RgOk 0 j then some (.ok (.lst (rngL 0 j)) s1) else none
    | _ => none
  | .cpy a, ρ, s => bnd (ev CT a ρ s) fun x s1 => match seqOf s1 x with
    | some xs => some (.ok (.loc s1.length) (s1 ++ [.lst xs]))
    | none => none
  | .comp own tg elt it cond, ρ, s => match evi CT it ρ s with
    | some (.ok xs s1) => match compL (fun x s2 => match bindT tg x (wipeE ρ own) with
        | none => none
        | some ρ' => match ev CT cond ρ' s2 with
          | some (.ok (.bl true) s3) => match ev CT elt ρ' s3 with
            | some (.ok y s4) => some (.ok (some y) s4)
            | _ => none
          | some (.ok (.bl false) s3) => some (.ok none s3)
          | _ => none) xs s1 with
      | some (.ok ys s5) => if ys.length ≤ sizeLine then some (.ok (.lst ys) s5) else none
      | _ => none
    | _ => none
  | .cpm own tg elt it cond, ρ, s => match evi CT it ρ s with
    | some (.ok xs s1) => match compL (fun x s2 => match bindT tg x (wipeE ρ own) with
        | none => none
        | some ρ' => match ev CT cond ρ' s2 with
          | some (.ok (.bl true) s3) => match ev CT elt ρ' s3 with
            | some (.ok y s4) => some (.ok (some y) s4)
            | _ => none
          | some (.ok (.bl false) s3) => some (.ok none s3)
          | _ => none) xs s1 with
      | some (.ok ys s5) => fresh true ys s5
      | _ => none
    | _ => none
  | .wlk _ f es, ρ, s => bnd (evs CT es ρ s) fun xs s1 => lstO (CT f xs s1)
  | .lgn f es, ρ, s => bnd (evs CT es ρ s) fun xs s1 => lstO (CT f xs s1)
  | .srt a, ρ, s => bnd (ev CT a ρ s) fun x s1 => pur s1 (srtD s1 x)
  | .gf i x, _, s => some (.ok (.gf i x) s)
  | .isl a, ρ, s => bnd (ev CT a ρ s) fun x s1 => if isSq s1 x = true then some (.ok (.bl true) s1) else none
  | .cav k es, ρ, s => match ρ[k]? with
    | some (some (.gf i x)) => if x = "Pile" then none else bnd (evs CT es ρ s) fun xs s1 => CT i xs s1
    | _ => none
  | .fld k a, ρ, s => bnd (ev CT a ρ s) fun x s1 => pur s1 (fldD s1 x k)
  | .mth f a es, ρ, s => bnd (ev CT a ρ s) fun x s1 => if isPil s1 x = true then bnd (evs CT es ρ s1) fun xs s2 => CT f (x :: xs) s2 else none
  | .msp f a e, ρ, s => bnd (ev CT a ρ s) fun x s1 => if isPil s1 x = true then bnd (ev CT e ρ s1) fun y s2 => match y with
    | .tup ys => CT f (x :: ys) s2
    | _ => none
    else none
  | .prp f a, ρ, s => bnd (ev CT a ρ s) fun x s1 => if isPil s1 x = true then okO (CT f [x] s1) else none
  | .oln f a, ρ, s => bnd (ev CT a ρ s) fun x s1 => if isPil s1 x = true then bnd (okO (CT f [x] s1)) fun r s2 => match r with
    | .int i => if 0 ≤ i ∧ i < 2 ^ 63 then some (.ok (.int i) s2) else none
    | _ => none
    else none
  | .con0 f c a, ρ, s => if clsIs ρ c = true then bnd (ev CT a ρ s) fun x s1 => conK CT f [x] s1 else none
  | .con1 f c a b, ρ, s => if clsIs ρ c = true then bnd (ev CT a ρ s) fun x s1 => bnd (ev CT b ρ s1) fun y s2 => conK CT f [x, y] s2 else none
  | .cmt f es, ρ, s => bnd (evs CT es ρ s) fun xs s1 => CT f (.gf 0 "Pile" :: xs) s1
  | .oeq ng f a b, ρ, s => bnd (ev CT a ρ s) fun x s1 => bnd (ev CT b ρ s1) fun y s2 => if isPil s2 x = true then bnd (okO (CT f [x, y] s2)) fun r s3 => match r with
    | .bl k => some (.ok (.bl (if ng then !k else k)) s3)
    | _ => none
    else none
  | .isp a, ρ, s => bnd (ev CT a ρ s) fun x s1 => match x with
    | .loc n => if isPil s1 (.loc n) = true then some (.ok (.bl true) s1) else none
    | .tup _ => some (.ok (.bl false) s1)
    | _ => none
  | .ccn _ f, _, s => CT f [] s
  | _, _, _ => none
def evs (CT : CTb) : E → Env → Sto → Option (Out (List D))
  | .nil, _, s => some (.ok [] s)
  | .cons a b, ρ, s => bnd (ev CT a ρ s) fun x s1 => bnd (evs CT b ρ s1) fun xs s2 => some (.ok (x :: xs) s2)
  | _, _, _ => none
/-- a slice's bound -/
def evo (CT : CTb) : E → Env → Sto → Option (Out (Option Int))
  | .nil, _, s => some (.ok none s)
  | .ps a, ρ, s => bnd (ev CT a ρ s) fun x s1 => match x with
    | .int i => some (.ok (some i) s1)
    | _ => none
  | _, _, _ => none
/-- what a loop walks -/
def evi (CT : CTb) : E → Env → Sto → Option (Out (List D))
  | .it a, ρ, s => bnd (ev CT a ρ s) fun x s1 => match x with
    | .tup xs => some (.ok xs s1)
    | .lst xs => some (.ok xs s1)
    | _ => none
  | .itl a, ρ, s => bnd (ev CT a ρ s) fun x s1 => match x with
    | .lst xs => some (.ok xs s1)
    | _ => none
  | .rng1 a, ρ, s => bnd (ev CT a ρ s) fun x s1 => match x with
    | .int j => if small62 j then some (.ok (rngL 0 j) s1) else none
    | _ => none
  | .rng2 a b, ρ, s => bnd (ev CT a ρ s) fun x s1 => bnd (ev CT b ρ s1) fun y s2 => match x, y with
    | .int i, .int j => if small62 i ∧ small62 j then some (.ok (rngL i j) s2) else none
    | _, _ => none
  | .rng3 a b c, ρ, s => bnd (ev CT a ρ s) fun x s1 => bnd (ev CT b ρ s1) fun y s2 => bnd (ev CT c ρ s2) fun z s3 => match x, y, z with
    | .int i, .int j, .int k => if small62 i ∧ small62 j ∧ k = -1 then some (.ok (rngC i (-1) (i - j).toNat) s3) else none
    | _, _, _ => none
  | .enum a, ρ, s => bnd (ev CT a ρ s) fun x s1 => match x with
    | .lst xs => some (.ok (enumL 0 xs) s1)
    | _ => none
  | .zip a b, ρ, s => bnd (ev CT a ρ s) fun x s1 => bnd (ev CT b ρ s1) fun y s2 => match x, y with
    | .lst xs, .lst ys => some (.ok (zipL xs ys) s2)
    | .tup xs, .lst ys => some (.ok (zipL xs ys) s2)
    | _, _ => none
  | _, _, _ => none
end

inductive S where
  | skip | seq (a b : S) | set (i : Nat) (e : E) | par (is : List Nat) (es : E) | unp (tg : E) (e : E) | ifs (c : E) (t f : S)
  | for_ (tg : E) (it : E) (b : S) | whl (n : Nat) (c : E) (b : S) | ret (e : E) | retN | expr (e : E) | app (a e : E) | sto (a i e : E) | rse (k : Nat) | fst (a : E) (k : Str) (e : E) | pop (a : E)
inductive SO where
  | nx (ρ : Env) (s : Sto) | ret (d : D) (s : Sto) | exc (k : Nat) (ρ : Env) (s : Sto)
def sbd {α : Type} (ρ : Env) (x : Option (Out α)) (f : α → Sto → Option SO) : Option SO :=
  match x with
  | some (.ok a s) => f a s
  | some (.exc k s) => some (.exc k ρ s)
  | none => none
def forL (f : D → Env → Sto → Option SO) : List D → Env → Sto → Option SO
  | [], ρ, s => some (.nx ρ s)
  | x :: xs, ρ, s => match f x ρ s with
    | some (.nx ρ1 s1) => forL f xs ρ1 s1
    | r => r
def whlF (c : Env → Sto → Option (Out D)) (f : Env → Sto → Option SO) : Nat → Env → Sto → Option SO
  | 0, _, _ => none
  | n + 1, ρ, s => sbd ρ (c ρ s) fun x s1 => match x with
    | .bl true => match f ρ s1 with
      | some (.nx ρ1 s2) => whlF c f n ρ1 s2
      | r => r
    | .bl false => some (.nx ρ s1)
    | _ => none
def setMany : List Nat → List D → Env → Option Env
  | [], [], ρ => some ρ
  | i :: is, d :: ds, ρ => setMany is ds (ρ.set i (some d))
  | _, _, _ => none
/-- a place of the store is written: an old one takes no place -/
def wr (L n : Nat) (c : Cell) (d : D) (s : Sto) : Option Sto := if L ≤ n ∨ noloc d = true then some (s.set n c) else none
def appD (L : Nat) (a d : D) (s : Sto) : Option Sto :=
  match a with
  | .loc n => match s[n]? with
    | some (.lst xs) => if xs.length < sizeLine then wr L n (.lst (xs ++ [d])) d s else none
    | _ => none
  | _ => none
def isLst (s : Sto) : D → Bool
  | .loc n => match s[n]? with
    | some (.lst _) => true
    | _ => false
  | _ => false
def stoD (L : Nat) (a i d : D) (s : Sto) : Option Sto :=
  match a with
  | .loc n => match s[n]? with
    | some (.lst xs) => match i with
      | .int k => match ixN xs.length k with
        | some j => wr L n (.lst (xs.set j d)) d s
        | none => none
      | _ => none
    | some (.dct kvs) => match keyD i with
      | some k => if kvs.length < sizeLine then wr L n (.dct (setK kvs k d)) d s else none
      | none => none
    | _ => none
  | _ => none
/-- a.k = d -/
def fstD (L : Nat) (a : D) (k : Str) (d : D) (s : Sto) : Option Sto :=
  match a with
  | .loc n => match s[n]? with
    | some (.ins fs) => if k ∈ pfields ∧ fs.length < 1000 then wr L n (.ins (putD k d fs)) d s else none
    | _ => none
  | _ => none
/-- a.pop() -/
def popD (L : Nat) (a : D) (s : Sto) : Option Sto :=
  match a with
  | .loc n => match s[n]? with
    | some (.lst xs) => if xs ≠ [] then wr L n (.lst xs.dropLast) .non s else none
    | _ => none
  | _ => none
def ex (CT : CTb) (L : Nat) : S → Env → Sto → Option SO
  | .skip, ρ, s => some (.nx ρ s)
  | .seq a b, ρ, s => match ex CT L a ρ s with
    | some (.nx ρ1 s1) => ex CT L b ρ1 s1
    | r => r
  | .set i e, ρ, s => sbd ρ (ev CT e ρ s) fun x s1 => some (.nx (ρ.set i (some x)) s1)
  | .par is es, ρ, s => sbd ρ (evs CT es ρ s) fun xs s1 => match setMany is xs ρ with
    | some ρ1 => some (.nx ρ1 s1)
    | none => none
  | .unp tg e, ρ, s => sbd ρ (ev CT e ρ s) fun x s1 => match bindT tg x ρ with
    | some ρ1 => some (.nx ρ1 s1)
    | none => none
  | .ifs c t f, ρ, s => sbd ρ (ev CT c ρ s) fun x s1 => match x with
    | .bl true => ex CT L t ρ s1
    | .bl false => ex CT L f ρ s1
    | _ => none
  | .for_ tg it b, ρ, s => sbd ρ (evi CT it ρ s) fun xs s1 => forL (fun x ρ1 s2 => match bindT tg x ρ1 with
    | some ρ2 => ex CT L b ρ2 s2
    | none => none) xs ρ s1
  | .whl n c b, ρ, s => whlF (ev CT c) (ex CT L b) n ρ s
  | .ret e, ρ, s => sbd ρ (ev CT e ρ s) fun x s1 => some (.ret x s1)
  | .retN, _, s => some (.ret .non s)
  | .expr e, ρ, s => sbd ρ (ev CT e ρ s) fun _ s1 => some (.nx ρ s1)
  | .app a e, ρ, s => sbd ρ (ev CT a ρ s) fun x s1 => if isLst s1 x then sbd ρ (ev CT e ρ s1) fun y s2 => match appD L x y s2 with
    | some s3 => some (.nx ρ s3)
    | none => none
    else none
  | .sto a i e, ρ, s => sbd ρ (ev CT e ρ s) fun y s1 => sbd ρ (ev CT a ρ s1) fun x s2 => sbd ρ (ev CT i ρ s2) fun k s3 => match stoD L x k y s3 with
    | some s4 => some (.nx ρ s4)
    | none => none
  | .rse k, ρ, s => some (.exc k ρ s)
  | .fst a k e, ρ, s => sbd ρ (ev CT e ρ s) fun y s1 => sbd ρ (ev CT a ρ s1) fun x s2 => match fstD L x k y s2 with
    | some s3 => some (.nx ρ s3)
    | none => none
  | .pop a, ρ, s => sbd ρ (ev CT a ρ s) fun x s1 => match popD L x s1 with
    | some s2 => some (.nx ρ s2)
    | none => none

/-- a def: its parameters, its slots, its body; fz: what it made is taken out of the store when it ends -/
structure Fn where
  np : Nat
  ns : Nat
  body : S
  fz : Bool
def freeze (L : Nat) (s : Sto) (d : D) : Option D :=
  match d with
  | .loc n => if n < L then some (.loc n) else match s[n]? with
    | some (.lst xs) => if nolocs xs then some (.lst xs) else none
    | _ => none
  | d => if noloc d then some d else none
def fin (fz : Bool) (L : Nat) (s : Sto) (d : D) : Option (Out D) :=
  if fz then (match freeze L s d with
    | some d' => some (.ok d' (s.take L))
    | none => none) else some (.ok d s)
def run (CT : CTb) (F : Fn) (ds : List D) (s : Sto) : Option (Out D) :=
  if ds.length = F.np then match ex CT s.length F.body (ds.map some ++ List.replicate (F.ns - F.np) none) s with
    | some (.ret d s1) => fin F.fz s.length s1 d
    | some (.nx _ s1) => fin F.fz s.length s1 .non
    | some (.exc k _ s1) => some (.exc k (if F.fz then s1.take s.length else s1))
    | none => none
  else none
/-- __init__: its instance is the last thing of the store, and takes places -/
def runI (CT : CTb) (F : Fn) (ds : List D) (s : Sto) : Option (Out D) :=
  if ds.length = F.np ∧ F.fz = false then match ex CT (s.length - 1) F.body (ds.map some ++ List.replicate (F.ns - F.np) none) s with
    | some (.ret d s1) => some (.ok d s1)
    | some (.nx _ s1) => some (.ok .non s1)
    | some (.exc k _ s1) => some (.exc k s1)
    | none => none
  else none
end EV

/-! defs that hold lambdas, printed by gen.py -/
namespace EV
open PySem PySem.Spec PyProof.Rows L2
def lamDefs : List Str := []
def gfs : List (Nat × Str) := []
def hasPile : Bool := true
def pmem : List (Nat × Str) := [(0, ("__len__" : Str)), (1, ("words" : Str)), (1, ("row" : Str)), (0, ("apply" : Str)), (2, ("after" : Str))]
def pcon : List (Str × Int) := []
def lamQ (x : Str) : Str := x ++ ".<locals>." ++ "<lambda>"
def tabsK (K : PySem.W.Frag) : List (Addr × Str) := lamDefs.map fun x => ((He.cT K (x, none)).2, lamQ x)
end EV

/-! the evaluator and HandS: what stands for what -/
namespace EV
open PySem PySem.Spec PyProof.Rows L2

/-! ### values and the heap -/
/-- the places of the store; what is hidden: lists that are being made, to which no value leads -/
structure Pl where
  a : List Addr
  h : List Addr
def Tk (m : Pl) (x : Addr) : Prop := x ∈ m.a ∨ x ∈ m.h
def Pl.add (m : Pl) (p : Addr) : Pl := ⟨m.a ++ [p], m.h⟩
def Pl.hide (m : Pl) (p : Addr) : Pl := ⟨m.a, p :: m.h⟩
def ScrR (K : PySem.W.Frag) (m : Pl) (H : Hp) (a : Addr) (ns : List Int) : Prop :=
  ((∃ o, H a = some (.frz o (.lst (ns.map V.int)))) ∨ SqL K (fun _ => none) a (ns.map V.int)) ∨ (¬ Tk m a ∧ H a = some (.lst (ns.map V.int)))
mutual
def RD (K : PySem.W.Frag) (m : Pl) (H : Hp) : D → V → Prop
  | .non, v => v = .non
  | .bl b, v => v = .bl b
  | .int i, v => v = .int i
  | .str x, v => v = .str x
  | .tup xs, v => ∃ a vs, v = .ref a ∧ SqT K H a vs ∧ RDs K m H xs vs
  | .lst xs, v => ∃ a vs, v = .ref a ∧ ¬ Tk m a ∧ H a = some (.lst vs) ∧ RDs K m H xs vs
  | .scr ns, v => ∃ a, v = .ref a ∧ ScrR K m H a ns
  | .adr a, v => v = .ref a
  | .gf i x, v => v = .ref (He.ga K x) ∧ ((i, x) ∈ gfs ∨ x = "Pile")
  | .loc n, v => ∃ a, v = .ref a ∧ m.a[n]? = some a
def RDs (K : PySem.W.Frag) (m : Pl) (H : Hp) : List D → List V → Prop
  | [], vs => vs = []
  | x :: xs, vs => ∃ v r, vs = v :: r ∧ RD K m H x v ∧ RDs K m H xs r
end
def RKs (K : PySem.W.Frag) (m : Pl) (H : Hp) : List (Key × D) → List (Key × V) → Prop
  | [], vs => vs = []
  | (k, x) :: xs, vs => ∃ v r, vs = (k, v) :: r ∧ RD K m H x v ∧ RKs K m H xs r
/-- the fields of an instance -/
def RFs (K : PySem.W.Frag) (m : Pl) (H : Hp) : List (Str × D) → List (Str × V) → Prop
  | [], vs => vs = []
  | (k, x) :: xs, vs => ∃ v r, vs = (k, v) :: r ∧ RD K m H x v ∧ RFs K m H xs r
def CellR (K : PySem.W.Frag) (m : Pl) (H : Hp) (a : Addr) : Cell → Prop
  | .lst xs => ∃ vs, H a = some (.lst vs) ∧ RDs K m H xs vs
  | .dct kvs => ∃ vs, H a = some (.dK vs) ∧ RKs K m H kvs vs
  | .ins fs => ∃ dx vs, H a = some (.ins (He.ga K "Pile") dx vs) ∧ RFs K m H fs vs ∧ ∀ q ∈ fs, q.1 ∈ pfields
/-- what a place may be -/
def Mut (o : HO) : Prop := (∃ xs, o = .lst xs) ∨ (∃ k, o = .dK k) ∨ ∃ C dx fs, o = .ins C dx fs
structure SRel (K : PySem.W.Frag) (m : Pl) (s : Sto) (H : Hp) : Prop where
  len : m.a.length = s.length
  nd : m.a.Nodup
  cell : ∀ (n : Nat) (c : Cell), s[n]? = some c → ∃ a, m.a[n]? = some a ∧ CellR K m H a c
  hid : ∀ z ∈ m.h, z ∉ m.a ∧ ∃ xs, H z = some (.lst xs)
  tab : LamX.Tabs (tabsK K) H
/-- how the heap and the places may grow -/
structure Later (m : Pl) (H : Hp) (m' : Pl) (H' : Hp) : Prop where
  pre : ∃ t, m'.a = m.a ++ t
  hid : m'.h = m.h
  keep : ∀ a o, H a = some o → a ∉ m.a → (∀ q, o ≠ .tbl q) → H' a = some o ∧ a ∉ m'.a
  hold : ∀ a o, H a = some o → (∀ xs, o ≠ .lst xs) → ((∀ k, o ≠ .dK k) ∧ ∀ C dx fs, o ≠ .ins C dx fs) → (∀ q, o ≠ .tbl q) → H' a = some o
structure Step (L : Nat) (m : Pl) (s : Sto) (H : Hp) (m' : Pl) (s' : Sto) (H' : Hp) : Prop where
  later : Later m H m' H'
  slen : s.length ≤ s'.length
  kept : ∀ n : Nat, n < L → ∀ c' : Cell, s'[n]? = some c' → ∃ c, s[n]? = some c ∧ ∀ d ∈ c'.data, noloc d = true ∨ d ∈ c.data

section
variable {K : PySem.W.Frag} {m m1 m2 : Pl} {H H1 H2 : Hp} {s s1 s2 : Sto} {L L' : Nat}
theorem Later.refl : Later m H m H := ⟨⟨[], by simp⟩, rfl, fun a o h n _ => ⟨h, n⟩, fun a o h _ _ _ => h⟩
theorem Later.trans (a : Later m H m1 H1) (b : Later m1 H1 m2 H2) : Later m H m2 H2 := by
  refine ⟨?_, b.hid.trans a.hid, fun x o h n q => ?_, fun x o h n k q => b.hold x o (a.hold x o h n k q) n k q⟩
  · obtain ⟨t, e⟩ := a.pre
    obtain ⟨t', e'⟩ := b.pre
    exact ⟨t ++ t', by rw [e', e, List.append_assoc]⟩
  · obtain ⟨h1, n1⟩ := a.keep x o h n q
    exact b.keep x o h1 n1 q
theorem Later.at {n : Nat} {a : Addr} (l : Later m H m1 H1) (h : m.a[n]? = some a) : m1.a[n]? = some a := by
  obtain ⟨t, e⟩ := l.pre
  rw [e, List.getElem?_append_left (List.getElem?_eq_some_iff.mp h).1]
  exact h
theorem Later.tk {a : Addr} {vs : List V} (l : Later m H m1 H1) (h : H a = some (.lst vs)) (n : ¬ Tk m a) : H1 a = some (.lst vs) ∧ ¬ Tk m1 a := by
  obtain ⟨h1, n1⟩ := l.keep a _ h (fun z => n (.inl z)) fun _ => by simp
  refine ⟨h1, fun z => ?_⟩
  rcases z with z | z
  · exact n1 z
  · rw [l.hid] at z
    exact n (.inr z)
theorem Step.refl : Step L m s H m s H := ⟨.refl, Nat.le_refl _, fun n _ c' h => ⟨c', h, fun d hd => .inr hd⟩⟩
theorem Step.trans (a : Step L m s H m1 s1 H1) (b : Step L m1 s1 H1 m2 s2 H2) : Step L m s H m2 s2 H2 := by
  refine ⟨a.later.trans b.later, Nat.le_trans a.slen b.slen, fun n hn c' h => ?_⟩
  obtain ⟨c1, h1, k1⟩ := b.kept n hn c' h
  obtain ⟨c0, h0, k0⟩ := a.kept n hn c1 h1
  exact ⟨c0, h0, fun d hd => (k1 d hd).elim .inl (k0 d)⟩
theorem Step.mono (h : L ≤ L') (a : Step L' m s H m1 s1 H1) : Step L m s H m1 s1 H1 := ⟨a.later, a.slen, fun n hn => a.kept n (Nat.lt_of_lt_of_le hn h)⟩

theorem SqT.later {a : Addr} {vs : List V} (l : Later m H m1 H1) (h : SqT K H a vs) : SqT K H1 a vs := by
  rcases h with (h | ⟨o, h⟩) | h
  · exact .inl (.inl (l.hold _ _ h (fun _ => by simp) ⟨fun _ => by simp, fun _ _ _ => by simp⟩ fun _ => by simp))
  · exact .inl (.inr ⟨o, l.hold _ _ h (fun _ => by simp) ⟨fun _ => by simp, fun _ _ _ => by simp⟩ fun _ => by simp⟩)
  · exact .inr h
theorem ScrR.later {a : Addr} {ns : List Int} (l : Later m H m1 H1) (h : ScrR K m H a ns) : ScrR K m1 H1 a ns := by
  rcases h with (⟨o, h⟩ | h) | ⟨n, h⟩
  · exact .inl (.inl ⟨o, l.hold _ _ h (fun _ => by simp) ⟨fun _ => by simp, fun _ _ _ => by simp⟩ fun _ => by simp⟩)
  · exact .inl (.inr h)
  · obtain ⟨h1, n1⟩ := l.tk h n
    exact .inr ⟨n1, h1⟩
theorem ScrR.seq {a : Addr} {ns : List Int} (h : ScrR K m H a ns) : SqL K H a (ns.map V.int) := by
  rcases h with (⟨o, h⟩ | h) | ⟨_, h⟩
  · exact .inl (.inr ⟨o, h⟩)
  · rcases h with (h | ⟨o, h⟩) | h
    · cases h
    · cases h
    · exact .inr h
  · exact .inl (.inl h)
mutual
theorem RD.later (l : Later m H m1 H1) : ∀ (d : D) (v : V), RD K m H d v → RD K m1 H1 d v
  | .non, v, h => h
  | .bl b, v, h => h
  | .int i, v, h => h
  | .str x, v, h => h
  | .tup xs, v, h => by
    obtain ⟨a, vs, e, t, r⟩ := h
    exact ⟨a, vs, e, SqT.later l t, RDs.later l xs vs r⟩
  | .lst xs, v, h => by
    obtain ⟨a, vs, e, n, t, r⟩ := h
    obtain ⟨t', n'⟩ := l.tk t n
    exact ⟨a, vs, e, n', t', RDs.later l xs vs r⟩
  | .adr a, v, h => h
  | .gf i x, v, h => h
  | .scr ns, v, h => by
    obtain ⟨a, e, t⟩ := h
    exact ⟨a, e, ScrR.later l t⟩
  | .loc n, v, h => by
    obtain ⟨a, e, t⟩ := h
    exact ⟨a, e, l.at t⟩
theorem RDs.later (l : Later m H m1 H1) : ∀ (ds : List D) (vs : List V), RDs K m H ds vs → RDs K m1 H1 ds vs
  | [], vs, h => h
  | x :: xs, vs, h => by
    obtain ⟨v, r, e, h1, h2⟩ := h
    exact ⟨v, r, e, RD.later l x v h1, RDs.later l xs r h2⟩
end
/-- what a value needs to stay itself -/
structure Mv (m : Pl) (H : Hp) (m' : Pl) (H' : Hp) : Prop where
  at_ : ∀ (n : Nat) a, m.a[n]? = some a → m'.a[n]? = some a
  tk : ∀ a vs, H a = some (.lst vs) → ¬ Tk m a → H' a = some (.lst vs) ∧ ¬ Tk m' a
  hold : ∀ a o, H a = some o → (∀ xs, o ≠ .lst xs) → ((∀ k, o ≠ .dK k) ∧ ∀ C dx fs, o ≠ .ins C dx fs) → (∀ q, o ≠ .tbl q) → H' a = some o
theorem Later.mv (l : Later m H m1 H1) : Mv m H m1 H1 := ⟨fun _ _ h => l.at h, fun _ _ h n => l.tk h n, l.hold⟩
theorem Mv.trans (a : Mv m H m1 H1) (b : Mv m1 H1 m2 H2) : Mv m H m2 H2 := ⟨fun n x h => b.at_ n x (a.at_ n x h), fun x vs h n => let ⟨h1, n1⟩ := a.tk x vs h n; b.tk x vs h1 n1, fun x o h n k q => b.hold x o (a.hold x o h n k q) n k q⟩
theorem SqT.mv {a : Addr} {vs : List V} (l : Mv m H m1 H1) (h : SqT K H a vs) : SqT K H1 a vs := by
  rcases h with (h | ⟨o, h⟩) | h
  · exact .inl (.inl (l.hold _ _ h (fun _ => by simp) ⟨fun _ => by simp, fun _ _ _ => by simp⟩ fun _ => by simp))
  · exact .inl (.inr ⟨o, l.hold _ _ h (fun _ => by simp) ⟨fun _ => by simp, fun _ _ _ => by simp⟩ fun _ => by simp⟩)
  · exact .inr h
theorem ScrR.mv {a : Addr} {ns : List Int} (l : Mv m H m1 H1) (h : ScrR K m H a ns) : ScrR K m1 H1 a ns := by
  rcases h with (⟨o, h⟩ | h) | ⟨n, h⟩
  · exact .inl (.inl ⟨o, l.hold _ _ h (fun _ => by simp) ⟨fun _ => by simp, fun _ _ _ => by simp⟩ fun _ => by simp⟩)
  · exact .inl (.inr h)
  · obtain ⟨h1, n1⟩ := l.tk _ _ h n
    exact .inr ⟨n1, h1⟩
mutual
theorem RD.mv (l : Mv m H m1 H1) : ∀ (d : D) (v : V), RD K m H d v → RD K m1 H1 d v
  | .non, v, h => h
  | .bl b, v, h => h
  | .int i, v, h => h
  | .str x, v, h => h
  | .tup xs, v, h => by
    obtain ⟨a, vs, e, t, r⟩ := h
    exact ⟨a, vs, e, SqT.mv l t, RDs.mv l xs vs r⟩
  | .lst xs, v, h => by
    obtain ⟨a, vs, e, n, t, r⟩ := h
    obtain ⟨t', n'⟩ := l.tk _ _ t n
    exact ⟨a, vs, e, n', t', RDs.mv l xs vs r⟩
  | .adr a, v, h => h
  | .gf i x, v, h => h
  | .scr ns, v, h => by
    obtain ⟨a, e, t⟩ := h
    exact ⟨a, e, ScrR.mv l t⟩
  | .loc n, v, h => by
    obtain ⟨a, e, t⟩ := h
    exact ⟨a, e, l.at_ _ _ t⟩
theorem RDs.mv (l : Mv m H m1 H1) : ∀ (ds : List D) (vs : List V), RDs K m H ds vs → RDs K m1 H1 ds vs
  | [], vs, h => h
  | x :: xs, vs, h => by
    obtain ⟨v, r, e, h1, h2⟩ := h
    exact ⟨v, r, e, RD.mv l x v h1, RDs.mv l xs r h2⟩
end
theorem RKs.mv (l : Mv m H m1 H1) : ∀ (ds : List (Key × D)) (vs : List (Key × V)), RKs K m H ds vs → RKs K m1 H1 ds vs
  | [], vs, h => h
  | (k, x) :: xs, vs, h => by
    obtain ⟨v, r, e, h1, h2⟩ := h
    exact ⟨v, r, e, RD.mv l x v h1, RKs.mv l xs r h2⟩
theorem RFs.mv (l : Mv m H m1 H1) : ∀ (ds : List (Str × D)) (vs : List (Str × V)), RFs K m H ds vs → RFs K m1 H1 ds vs
  | [], vs, h => h
  | (k, x) :: xs, vs, h => by
    obtain ⟨v, r, e, h1, h2⟩ := h
    exact ⟨v, r, e, RD.mv l x v h1, RFs.mv l xs r h2⟩
theorem CellR.mv {a : Addr} {c : Cell} (l : Mv m H m1 H1) (e : H1 a = H a) (h : CellR K m H a c) : CellR K m1 H1 a c := by
  cases c with
  | lst xs =>
    obtain ⟨vs, h1, h2⟩ := h
    exact ⟨vs, e.trans h1, RDs.mv l xs vs h2⟩
  | dct kvs =>
    obtain ⟨vs, h1, h2⟩ := h
    exact ⟨vs, e.trans h1, RKs.mv l kvs vs h2⟩
  | ins fs =>
    obtain ⟨dx, vs, h1, h2, h3⟩ := h
    exact ⟨dx, vs, e.trans h1, RFs.mv l fs vs h2, h3⟩
theorem RKs.later (l : Later m H m1 H1) : ∀ (ds : List (Key × D)) (vs : List (Key × V)), RKs K m H ds vs → RKs K m1 H1 ds vs
  | [], vs, h => h
  | (k, x) :: xs, vs, h => by
    obtain ⟨v, r, e, h1, h2⟩ := h
    exact ⟨v, r, e, RD.later l x v h1, RKs.later l xs r h2⟩
mutual
/-- what holds no place keeps under fewer places -/
theorem RD.fewer (t : ∀ a, Tk m1 a → Tk m a) : ∀ (d : D) (v : V), noloc d = true → RD K m H d v → RD K m1 H d v
  | .non, v, _, h => h
  | .bl b, v, _, h => h
  | .int i, v, _, h => h
  | .str x, v, _, h => h
  | .tup xs, v, n, h => by
    obtain ⟨a, vs, e, t', r⟩ := h
    exact ⟨a, vs, e, t', RDs.fewer t xs vs n r⟩
  | .lst xs, v, n, h => by
    obtain ⟨a, vs, e, n', t', r⟩ := h
    exact ⟨a, vs, e, fun z => n' (t _ z), t', RDs.fewer t xs vs n r⟩
  | .scr ns, v, _, h => by
    obtain ⟨a, e, h⟩ := h
    exact ⟨a, e, h.imp id fun h => ⟨fun z => h.1 (t _ z), h.2⟩⟩
  | .adr a, v, _, h => h
  | .gf i x, v, z, h => by cases z
  | .loc n, v, z, h => by cases z
theorem RDs.fewer (t : ∀ a, Tk m1 a → Tk m a) : ∀ (ds : List D) (vs : List V), nolocs ds = true → RDs K m H ds vs → RDs K m1 H ds vs
  | [], vs, _, h => h
  | x :: xs, vs, n, h => by
    obtain ⟨v, r, e, h1, h2⟩ := h
    have n' : (noloc x && nolocs xs) = true := n
    rw [Bool.and_eq_true] at n'
    exact ⟨v, r, e, RD.fewer t x v n'.1 h1, RDs.fewer t xs r n'.2 h2⟩
end
mutual
/-- the places of a value lie below n -/
def below (n : Nat) : D → Prop
  | .loc k => k < n
  | .tup xs => belows n xs
  | .lst xs => belows n xs
  | _ => True
def belows (n : Nat) : List D → Prop
  | [] => True
  | x :: xs => below n x ∧ belows n xs
end
mutual
theorem RD.below : ∀ (d : D) (v : V), RD K m H d v → below m.a.length d
  | .non, v, h => True.intro
  | .bl b, v, h => True.intro
  | .int i, v, h => True.intro
  | .str x, v, h => True.intro
  | .tup xs, v, h => by
    obtain ⟨a, vs, e, t', r⟩ := h
    exact RDs.belows xs vs r
  | .lst xs, v, h => by
    obtain ⟨a, vs, e, n', t', r⟩ := h
    exact RDs.belows xs vs r
  | .scr ns, v, h => True.intro
  | .adr a, v, h => True.intro
  | .gf i x, v, h => True.intro
  | .loc n, v, h => by
    obtain ⟨a, e, t⟩ := h
    exact (List.getElem?_eq_some_iff.mp t).1
theorem RDs.belows : ∀ (ds : List D) (vs : List V), RDs K m H ds vs → belows m.a.length ds
  | [], vs, h => True.intro
  | x :: xs, vs, h => by
    obtain ⟨v, r, e, h1, h2⟩ := h
    exact ⟨RD.below x v h1, RDs.belows xs r h2⟩
end
mutual
/-- what lies below the length of the shorter list of places keeps -/
theorem RD.cut {t : List Addr} (e0 : m1.a = m.a ++ t) (eh : m1.h = m.h) : ∀ (d : D) (v : V), below m.a.length d → RD K m1 H d v → RD K m H d v
  | .non, v, _, h => h
  | .bl b, v, _, h => h
  | .int i, v, _, h => h
  | .str x, v, _, h => h
  | .tup xs, v, n, h => by
    obtain ⟨a, vs, e, t', r⟩ := h
    exact ⟨a, vs, e, t', RDs.cut e0 eh xs vs n r⟩
  | .lst xs, v, n, h => by
    obtain ⟨a, vs, e, n', t', r⟩ := h
    exact ⟨a, vs, e, fun z => n' (z.elim (fun z => .inl (by rw [e0]; exact List.mem_append_left _ z)) fun z => .inr (by rw [eh]; exact z)), t', RDs.cut e0 eh xs vs n r⟩
  | .scr ns, v, _, h => by
    obtain ⟨a, e, h⟩ := h
    exact ⟨a, e, h.imp id fun h => ⟨fun z => h.1 (z.elim (fun z => .inl (by rw [e0]; exact List.mem_append_left _ z)) fun z => .inr (by rw [eh]; exact z)), h.2⟩⟩
  | .adr a, v, _, h => h
  | .gf i x, v, _, h => h
  | .loc n, v, z, h => by
    obtain ⟨a, e, t'⟩ := h
    refine ⟨a, e, ?_⟩
    rw [e0, List.getElem?_append_left z] at t'
    exact t'
theorem RDs.cut {t : List Addr} (e0 : m1.a = m.a ++ t) (eh : m1.h = m.h) : ∀ (ds : List D) (vs : List V), belows m.a.length ds → RDs K m1 H ds vs → RDs K m H ds vs
  | [], vs, _, h => h
  | x :: xs, vs, n, h => by
    obtain ⟨v, r, e, h1, h2⟩ := h
    exact ⟨v, r, e, RD.cut e0 eh x v n.1 h1, RDs.cut e0 eh xs r n.2 h2⟩
end
theorem RDs.length : ∀ {ds : List D} {vs : List V}, RDs K m H ds vs → ds.length = vs.length
  | [], vs, h => by
    have e : vs = [] := h
    rw [e]
    rfl
  | x :: xs, vs, h => by
    obtain ⟨v, r, rfl, h1, h2⟩ := h
    simp only [List.length_cons, RDs.length h2]
theorem RDs.get : ∀ {ds : List D} {vs : List V} {i : Nat} {d : D}, RDs K m H ds vs → ds[i]? = some d → ∃ v, vs[i]? = some v ∧ RD K m H d v
  | [], vs, i, d, h, g => by simp at g
  | x :: xs, vs, 0, d, h, g => by
    obtain ⟨v, r, rfl, h1, h2⟩ := h
    simp at g
    subst g
    exact ⟨v, rfl, h1⟩
  | x :: xs, vs, i + 1, d, h, g => by
    obtain ⟨v, r, rfl, h1, h2⟩ := h
    simp at g
    obtain ⟨v', a, b⟩ := RDs.get h2 g
    exact ⟨v', by simpa using a, b⟩
theorem RDs.append : ∀ {ds es : List D} {vs us : List V}, RDs K m H ds vs → RDs K m H es us → RDs K m H (ds ++ es) (vs ++ us)
  | [], es, vs, us, h, g => by
    have e : vs = [] := h
    rw [e]
    exact g
  | x :: xs, es, vs, us, h, g => by
    obtain ⟨v, r, rfl, h1, h2⟩ := h
    exact ⟨v, r ++ us, rfl, h1, RDs.append h2 g⟩
theorem RDs.take : ∀ {ds : List D} {vs : List V} (n : Nat), RDs K m H ds vs → RDs K m H (ds.take n) (vs.take n)
  | ds, vs, 0, h => by
    rw [List.take_zero, List.take_zero]
    exact (rfl : ([] : List V) = [])
  | [], vs, n + 1, h => by
    have e : vs = [] := h
    rw [e]
    exact (rfl : ([] : List V) = [])
  | x :: xs, vs, n + 1, h => by
    obtain ⟨v, r, rfl, h1, h2⟩ := h
    exact ⟨v, r.take n, rfl, h1, RDs.take n h2⟩
theorem RDs.drop : ∀ {ds : List D} {vs : List V} (n : Nat), RDs K m H ds vs → RDs K m H (ds.drop n) (vs.drop n)
  | ds, vs, 0, h => h
  | [], vs, n + 1, h => by
    have e : vs = [] := h
    rw [e]
    exact (rfl : ([] : List V) = [])
  | x :: xs, vs, n + 1, h => by
    obtain ⟨v, r, rfl, h1, h2⟩ := h
    exact RDs.drop (vs := r) n h2
theorem RDs.reverse {ds : List D} {vs : List V} (h : RDs K m H ds vs) : RDs K m H ds.reverse vs.reverse := by
  induction ds generalizing vs with
  | nil =>
    have e : vs = [] := h
    rw [e]
    exact (rfl : ([] : List V) = [])
  | cons x xs ih =>
    obtain ⟨v, r, rfl, h1, h2⟩ := h
    rw [List.reverse_cons, List.reverse_cons]
    exact RDs.append (ih h2) ⟨v, [], rfl, h1, rfl⟩
theorem RDs.set : ∀ {ds : List D} {vs : List V} {d : D} {v : V} (n : Nat), RDs K m H ds vs → RD K m H d v → RDs K m H (ds.set n d) (vs.set n v)
  | [], vs, d, v, n, h, g => by
    have e : vs = [] := h
    rw [e]
    exact (rfl : ([] : List V) = [])
  | x :: xs, vs, d, v, 0, h, g => by
    obtain ⟨v0, r, rfl, h1, h2⟩ := h
    exact ⟨v, r, rfl, g, h2⟩
  | x :: xs, vs, d, v, n + 1, h, g => by
    obtain ⟨v0, r, rfl, h1, h2⟩ := h
    exact ⟨v0, r.set n v, rfl, h1, RDs.set n h2 g⟩
theorem RDs.rep {ds : List D} {vs : List V} (h : RDs K m H ds vs) : ∀ n : Nat, RDs K m H (List.replicate n ds).flatten (List.replicate n vs).flatten
  | 0 => (rfl : ([] : List V) = [])
  | n + 1 => by
    rw [List.replicate_succ, List.replicate_succ, List.flatten_cons, List.flatten_cons]
    exact RDs.append h (RDs.rep h n)
theorem RDs.ints : ∀ {ds : List D} {vs : List V} {ns : List Int}, RDs K m H ds vs → intsOf ds = some ns → vs = ns.map V.int
  | [], vs, ns, h, g => by
    have e : vs = [] := h
    have e2 : ([] : List Int) = ns := Option.some.inj g
    rw [e, ← e2]
    rfl
  | x :: xs, vs, ns, h, g => by
    obtain ⟨v, r, rfl, h1, h2⟩ := h
    cases x with
    | int i =>
      have g' : (intsOf xs).map (i :: ·) = some ns := g
      obtain ⟨ms, e1, e2⟩ := Option.map_eq_some_iff.mp g'
      subst e2
      have e : v = .int i := h1
      rw [e, RDs.ints h2 e1]
      rfl
    | _ => exact absurd (show (none : Option (List Int)) = some ns from g) (by simp)
theorem RDs.bls : ∀ {ds : List D} {vs : List V} {ns : List Bool}, RDs K m H ds vs → blsOf ds = some ns → vs = ns.map V.bl
  | [], vs, ns, h, g => by
    have e : vs = [] := h
    have e2 : ([] : List Bool) = ns := Option.some.inj g
    rw [e, ← e2]
    rfl
  | x :: xs, vs, ns, h, g => by
    obtain ⟨v, r, rfl, h1, h2⟩ := h
    cases x with
    | bl i =>
      have g' : (blsOf xs).map (i :: ·) = some ns := g
      obtain ⟨ms, e1, e2⟩ := Option.map_eq_some_iff.mp g'
      subst e2
      have e : v = .bl i := h1
      rw [e, RDs.bls h2 e1]
      rfl
    | _ => exact absurd (show (none : Option (List Bool)) = some ns from g) (by simp)
theorem RDs.rng (a c : Int) : ∀ n : List Nat, RDs K m H (n.map fun i => D.int (a + (i : Nat) * c)) (n.map fun i => V.int (a + (i : Nat) * c))
  | [] => (rfl : ([] : List V) = [])
  | i :: r => ⟨_, _, rfl, rfl, RDs.rng a c r⟩

/-! ### the store under growth -/
theorem CellR.later {a : Addr} {c : Cell} (l : Later m H m1 H1) (e : H1 a = H a) (h : CellR K m H a c) : CellR K m1 H1 a c := by
  cases c with
  | lst xs =>
    obtain ⟨vs, h1, h2⟩ := h
    exact ⟨vs, e.trans h1, RDs.later l xs vs h2⟩
  | dct kvs =>
    obtain ⟨vs, h1, h2⟩ := h
    exact ⟨vs, e.trans h1, RKs.later l kvs vs h2⟩
  | ins fs =>
    obtain ⟨dx, vs, h1, h2, h3⟩ := h
    exact ⟨dx, vs, e.trans h1, RFs.mv l.mv fs vs h2, h3⟩
theorem SRel.at (S : SRel K m s H) {n : Nat} {a : Addr} (h : m.a[n]? = some a) : ∃ c, s[n]? = some c ∧ CellR K m H a c := by
  have hn : n < s.length := by rw [← S.len]; exact (List.getElem?_eq_some_iff.mp h).1
  obtain ⟨b, h1, h2⟩ := S.cell n s[n] (List.getElem?_eq_getElem hn)
  rw [h] at h1
  cases h1
  exact ⟨_, List.getElem?_eq_getElem hn, h2⟩
theorem SRel.held (S : SRel K m s H) {a : Addr} (h : a ∈ m.a) : ∃ o, H a = some o ∧ Mut o := by
  obtain ⟨n, hn⟩ := List.getElem?_of_mem h
  obtain ⟨c, _, hc⟩ := S.at hn
  cases c with
  | lst xs =>
    obtain ⟨vs, h1, _⟩ := hc
    exact ⟨_, h1, .inl ⟨_, rfl⟩⟩
  | dct kvs =>
    obtain ⟨vs, h1, _⟩ := hc
    exact ⟨_, h1, .inr (.inl ⟨_, rfl⟩)⟩
  | ins fs =>
    obtain ⟨dx, vs, h1, _⟩ := hc
    exact ⟨_, h1, .inr (.inr ⟨_, _, _, rfl⟩)⟩
theorem SRel.no (S : SRel K m s H) {a : Addr} (h : H a = none) : ¬ Tk m a := fun z => by
  rcases z with z | z
  · obtain ⟨o, e, _⟩ := S.held z
    rw [h] at e
    cases e
  · obtain ⟨_, o, e⟩ := S.hid a z
    rw [h] at e
    cases e
/-- a new thing, not a place -/
theorem Later.new {p : Addr} {o : HO} (h : H p = none) : Later m H m (upd H p o) :=
  ⟨⟨[], by simp⟩, rfl, fun a u e n _ => ⟨by rw [upd_ne (ne_of_none e h)]; exact e, n⟩, fun a u e _ _ _ => by rw [upd_ne (ne_of_none e h)]; exact e⟩
theorem Step.new {p : Addr} {o : HO} (h : H p = none) : Step L m s H m s (upd H p o) := ⟨.new h, Nat.le_refl _, fun n _ c' h => ⟨c', h, fun d hd => .inr hd⟩⟩
theorem SRel.same (S : SRel K m s H) (l : Later m H m H1) (e : ∀ a o, H a = some o → H1 a = some o) : SRel K m s H1 := by
  refine ⟨S.len, S.nd, fun n c h => ?_, fun z hz => ?_, S.tab.ext e⟩
  · obtain ⟨a, h1, h2⟩ := S.cell n c h
    refine ⟨a, h1, h2.later l ?_⟩
    obtain ⟨o, q, _⟩ := S.held (List.mem_of_getElem? h1)
    rw [q, e a o q]
  · obtain ⟨h1, o, h2⟩ := S.hid z hz
    exact ⟨h1, o, e _ _ h2⟩
theorem _root_.LamX.Tabs.write {T : List (Addr × Str)} {a : Addr} {xs : List V} {o : HO} (t : LamX.Tabs T H) (h : H a = some (.lst xs)) : LamX.Tabs T (upd H a o) := fun p hp => by
  obtain ⟨ps, h1, h2, h3⟩ := t p hp
  have ne : ∀ b u, H b = some u → (∀ xs, u ≠ .lst xs) → b ≠ a := fun b u e n z => by
    rw [z, h] at e
    exact n xs (Option.some.inj e).symm
  refine ⟨ps, by rw [upd_ne (ne _ _ h1 fun _ => by simp)]; exact h1, h2, fun pos cv hc => ?_⟩
  obtain ⟨c, e1, e2⟩ := h3 pos cv hc
  exact ⟨c, e1, by rw [upd_ne (ne _ _ e2 fun _ => by unfold LamX.CodeO; simp)]; exact e2⟩
theorem _root_.LamX.Tabs.writeK {T : List (Addr × Str)} {a : Addr} {o o' : HO} (t : LamX.Tabs T H) (h : H a = some o') (ho : Mut o') : LamX.Tabs T (upd H a o) := fun p hp => by
  obtain ⟨ps, h1, h2, h3⟩ := t p hp
  have ne : ∀ b u, H b = some u → (∀ xs, u ≠ .lst xs) → ((∀ k, u ≠ .dK k) ∧ ∀ C dx fs, u ≠ .ins C dx fs) → b ≠ a := fun b u e n k z => by
    rw [z, h] at e
    cases e
    rcases ho with ⟨x, z⟩ | ⟨x, z⟩ | ⟨x, y, w, z⟩
    · exact n x z
    · exact k.1 x z
    · exact k.2 x y w z
  refine ⟨ps, by rw [upd_ne (ne _ _ h1 (fun _ => by simp) ⟨fun _ => by simp, fun _ _ _ => by simp⟩)]; exact h1, h2, fun pos cv hc => ?_⟩
  obtain ⟨c, e1, e2⟩ := h3 pos cv hc
  exact ⟨c, e1, by rw [upd_ne (ne _ _ e2 (fun _ => by unfold LamX.CodeO; simp) ⟨fun _ => by unfold LamX.CodeO; simp, fun _ _ _ => by unfold LamX.CodeO; simp⟩)]; exact e2⟩
theorem SRel.new {p : Addr} {o : HO} (S : SRel K m s H) (h : H p = none) : SRel K m s (upd H p o) :=
  S.same (.new h) fun a u e => by rw [upd_ne (ne_of_none e h)]; exact e
/-- a thing that was not there becomes a place -/
theorem Later.add {p : Addr} (h : H p = none) (l : Later m H m1 H1) : Later m H (m1.add p) H1 := by
  obtain ⟨t, e⟩ := l.pre
  refine ⟨⟨t ++ [p], by show m1.a ++ [p] = _; rw [e, List.append_assoc]⟩, l.hid, fun a o e' n' q' => ?_, l.hold⟩
  obtain ⟨h1, n1⟩ := l.keep a o e' n' q'
  refine ⟨h1, fun z => ?_⟩
  rcases List.mem_append.mp z with z | z
  · exact n1 z
  · rw [List.mem_singleton.mp z, h] at e'
    cases e'
end
end EV

/-! readings by the evaluator -/
namespace EV
open PySem PySem.Spec PyProof.Rows L2

/-- where one stands: HandS's context, the def's first own place, the wish about exceptions, the classes of exceptions -/
structure Ct where
  X : Cx
  L : Nat
  W : WX
  ca : Nat → Addr
structure Rel' (K : PySem.W.Frag) (L : Nat) (m : Pl) (s : Sto) (H : Hp) (ρ : Env) (σ : L2.St) : Prop where
  sr : SRel K m s H
  base : L ≤ s.length
  len : ρ.length = σ.length
  env : ∀ (i : Nat) (d : D), ρ[i]? = some (some d) → ∃ v, σ[i]? = some (some v) ∧ RD K m H d v
abbrev Rel (C : Ct) := Rel' C.X.K C.L
section
variable {C : Ct} {m m1 m2 : Pl} {H H1 H2 : Hp} {s s1 s2 : Sto} {ρ : Env} {σ : L2.St}
theorem Rel'.step (r : Rel C m s H ρ σ) (t : Step C.L m s H m1 s1 H1) (S : SRel C.X.K m1 s1 H1) : Rel C m1 s1 H1 ρ σ :=
  ⟨S, Nat.le_trans r.base t.slen, r.len, fun i d h => by
    obtain ⟨v, h1, h2⟩ := r.env i d h
    exact ⟨v, h1, RD.later t.later d v h2⟩⟩
theorem Rel'.set (r : Rel C m s H ρ σ) (i : Nat) {d : D} {v : V} (h : RD C.X.K m H d v) : Rel C m s H (ρ.set i (some d)) (σ.set i (some v)) := by
  refine ⟨r.sr, r.base, by rw [List.length_set, List.length_set]; exact r.len, fun j e hj => ?_⟩
  by_cases hji : i = j
  · subst hji
    by_cases hi : i < ρ.length
    · rw [List.getElem?_set_self hi] at hj
      cases hj
      exact ⟨v, List.getElem?_set_self (by rw [← r.len]; exact hi), h⟩
    · rw [List.getElem?_eq_none (by rw [List.length_set]; omega)] at hj
      cases hj
  · rw [List.getElem?_set_ne hji] at hj
    rw [List.getElem?_set_ne hji]
    exact r.env j e hj

/-- what holds of an outcome: R ties the value to what HandS has -/
def PX {α β : Type} (K : PySem.W.Frag) (ca : Nat → Addr) (L : Nat) (R : Pl → Hp → α → β → Prop) (m : Pl) (s : Sto) (H : Hp) (o : Option (Out α)) (Q : β → Hp → Prop) (E : XK) : Prop :=
  match o with
  | some (.ok a s') => ∀ m' H' b, Step L m s H m' s' H' → SRel K m' s' H' → R m' H' a b → Q b H'
  | some (.exc k s') => ∀ m' H', Step L m s H m' s' H' → SRel K m' s' H' → E (.ref (ca k)) none H'
  | none => False
abbrev P {α β : Type} (C : Ct) (R : Pl → Hp → α → β → Prop) (σ : L2.St) (m : Pl) (s : Sto) (H : Hp) (o : Option (Out α)) (Q : β → Hp → Prop) : Prop :=
  PX C.X.K C.ca C.L R m s H o Q (WE C.W σ)
theorem PX.mono {α β : Type} {R : Pl → Hp → α → β → Prop} {o : Option (Out α)} {Q Q' : β → Hp → Prop} (h : P C R σ m s H o Q) (f : ∀ b H', Q b H' → Q' b H') : P C R σ m s H o Q' := by
  match o, h with
  | some (.ok a s'), h => exact fun m' H' b h1 h2 h3 => f _ _ (h m' H' b h1 h2 h3)
  | some (.exc k s'), h => exact h
  | none, h => exact h.elim
theorem PX.step {α β : Type} {R : Pl → Hp → α → β → Prop} {o : Option (Out α)} {Q : β → Hp → Prop} (t : Step C.L m s H m1 s1 H1) (h : P C R σ m s H o Q) : P C R σ m1 s1 H1 o Q := by
  match o, h with
  | some (.ok a s'), h => exact fun m' H' b h1 h2 h3 => h m' H' b (t.trans h1) h2 h3
  | some (.exc k s'), h => exact fun m' H' h1 h2 => h m' H' (t.trans h1) h2
  | none, h => exact h.elim
/-- one evaluation, then another -/
theorem PX.bnd {α β γ δ : Type} {R : Pl → Hp → α → β → Prop} {R' : Pl → Hp → γ → δ → Prop} {o : Option (Out α)} {k : α → Sto → Option (Out γ)} {Q : δ → Hp → Prop} (h : P C R' σ m s H (bnd o k) Q) :
    P C R σ m s H o fun b H1 => ∃ a m1 s1, Step C.L m s H m1 s1 H1 ∧ SRel C.X.K m1 s1 H1 ∧ R m1 H1 a b ∧ P C R' σ m1 s1 H1 (k a s1) Q := by
  match o, h with
  | some (.ok a s'), h => exact fun m' H' b h1 h2 h3 => ⟨a, m', s', h1, h2, h3, PX.step h1 h⟩
  | some (.exc k s'), h => exact h
  | none, h => exact h.elim
theorem PX.ok {α β : Type} {R : Pl → Hp → α → β → Prop} {a : α} {s' : Sto} {Q : β → Hp → Prop} (h : P C R σ m s H (some (.ok a s')) Q) {m' : Pl} {H' : Hp} {b : β}
    (t : Step C.L m s H m' s' H') (S : SRel C.X.K m' s' H') (r : R m' H' a b) : Q b H' := h m' H' b t S r
theorem PX.here {α β : Type} {R : Pl → Hp → α → β → Prop} {a : α} {Q : β → Hp → Prop} {b : β} (h : P C R σ m s H (some (.ok a s)) Q) (S : SRel C.X.K m s H) (r : R m H a b) : Q b H := h m H b .refl S r
/-- a value from a fresh object that is no place -/
theorem PX.fresh {α β : Type} {R : Pl → Hp → α → β → Prop} {a : α} {Q : β → Hp → Prop} {b : β} {p : Addr} {o : HO} (h : P C R σ m s H (some (.ok a s)) Q) (S : SRel C.X.K m s H) (hp : H p = none)
    (r : R m (upd H p o) a b) : Q b (upd H p o) := h m _ b (.new hp) (S.new hp) r
theorem PX.pur {o : Option D} {Q : VK} (h : P C (RD C.X.K) σ m s H (pur s o) Q) : ∃ d, o = some d ∧ P C (RD C.X.K) σ m s H (some (.ok d s)) Q := by
  match o, h with
  | some d, h => exact ⟨d, rfl, h⟩
  | none, h => exact h.elim

abbrev RB : Pl → Hp → Bool → Bool → Prop := fun _ _ d b => d = b
/-- a truth value is wanted -/
def tst (o : Option (Out D)) : Option (Out Bool) := bnd o fun d s => match d with
  | .bl b => some (.ok b s)
  | _ => none
theorem tst_bl {b : Bool} {s : Sto} : tst (some (.ok (.bl b) s)) = some (.ok b s) := rfl
/-- the reading of an evaluation -/
def tG' {α β : Type} (K : PySem.W.Frag) (ca : Nat → Addr) (L : Nat) (W : WX) (R : Pl → Hp → α → β → Prop) (c : Env → Sto → Option (Out α)) : L2.St → Hp → (β → Hp → Prop) → Prop :=
  fun σ H Q => ∃ ρ m s, Rel' K L m s H ρ σ ∧ PX K ca L R m s H (c ρ s) Q (WE W σ)
abbrev tG {α β : Type} (C : Ct) (R : Pl → Hp → α → β → Prop) (c : Env → Sto → Option (Out α)) : L2.St → Hp → (β → Hp → Prop) → Prop := tG' C.X.K C.ca C.L C.W R c
abbrev SE (C : Ct) (e : Expr) (c : Env → Sto → Option (Out D)) : Prop := PE C.X e (tG C (RD C.X.K) c)
abbrev ST (C : Ct) (e : Expr) (c : Env → Sto → Option (Out D)) : Prop := PT C.X e (tG C RB fun ρ s => tst (c ρ s))
abbrev SW (C : Ct) (e : Expr) (c : Env → Sto → Option (Out D)) : Prop := PW C.X e (tG C RB fun ρ s => tst (c ρ s))
abbrev SA (C : Ct) (es : List Expr) (c : Env → Sto → Option (Out (List D))) : Prop := PA C.X es (tG C (RDs C.X.K) c)
/-- a rule's reading is weaker than ours -/
theorem PE.imp {X : Cx} {e : Expr} {t t' : TE} (h : PE X e t) (f : ∀ σ H Q, t' σ H Q → t σ H Q) : PE X e t' := ⟨fun pins s σ H Q I q => h.run pins s σ H Q I (f _ _ _ q)⟩
theorem PT.imp {X : Cx} {e : Expr} {t t' : TT} (h : PT X e t) (f : ∀ σ H Q, t' σ H Q → t σ H Q) : PT X e t' := ⟨fun pins s σ H Q I q => h.run pins s σ H Q I (f _ _ _ q)⟩
theorem PW.imp {X : Cx} {e : Expr} {t t' : TT} (h : PW X e t) (f : ∀ σ H Q, t' σ H Q → t σ H Q) : PW X e t' := ⟨fun w pins s σ H Q I q => h.run w pins s σ H Q I (f _ _ _ q)⟩
theorem PA.imp {X : Cx} {e : List Expr} {t t' : TA} (h : PA X e t) (f : ∀ σ H Q, t' σ H Q → t σ H Q) : PA X e t' := ⟨fun pos pins s σ H Q I q => h.run pos pins s σ H Q I (f _ _ _ q)⟩
theorem PI.imp {X : Cx} {tg e : Expr} {t t' : TI} (h : PI X tg e t) (f : ∀ σ H Q, t' σ H Q → t σ H Q) : PI X tg e t' := ⟨fun pins s σ H Q I q => h.run pins s σ H Q I (f _ _ _ q)⟩
theorem PS.imp {X : Cx} {e : Stmt} {t t' : TS} (h : PS X e t) (f : ∀ D σ H, t' D σ H → t D σ H) : PS X e t' := ⟨fun pins s σ H D I q => h.run pins s σ H D I (f _ _ _ q)⟩
theorem PSs.imp {X : Cx} {e : List Stmt} {t t' : TS} (h : PSs X e t) (f : ∀ D σ H, t' D σ H → t D σ H) : PSs X e t' := ⟨fun pins s σ H D I q => h.run pins s σ H D I (f _ _ _ q)⟩

end
end EV

/-! the operations on values -/
namespace EV
open PySem PySem.Spec PyProof.Rows L2

section
variable {C : Ct} {m m1 m2 : Pl} {H H1 H2 : Hp} {s s1 s2 : Sto} {ρ : Env} {σ : L2.St} {K : PySem.W.Frag}
/-- two evaluations in a row -/
theorem two {α β : Type} {R : Pl → Hp → α → β → Prop} {ca cb : Env → Sto → Option (Out D)} {k : D → D → Sto → Option (Out α)} {Q : β → Hp → Prop}
    (h : tG C R (fun ρ s => EV.bnd (ca ρ s) fun x s1 => EV.bnd (cb ρ s1) fun y s2 => k x y s2) σ H Q) :
    tG C (RD C.X.K) ca σ H fun v H1 => tG C (RD C.X.K) cb σ H1 fun u H2 => ∃ x y m s, SRel C.X.K m s H2 ∧ RD C.X.K m H2 x v ∧ RD C.X.K m H2 y u ∧ P C R σ m s H2 (k x y s) Q := by
  obtain ⟨ρ, m, s, hR, hP⟩ := h
  refine ⟨ρ, m, s, hR, (PX.bnd (R := RD C.X.K) hP).mono fun v H1 ⟨x, m1, s1, t1, S1, rx, hP1⟩ => ?_⟩
  refine ⟨ρ, m1, s1, hR.step t1 S1, (PX.bnd (R := RD C.X.K) hP1).mono fun u H2 ⟨y, m2, s2, t2, S2, ry, hP2⟩ => ?_⟩
  exact ⟨x, y, m2, s2, S2, RD.later t2.later x v rx, ry, hP2⟩
theorem one {α β : Type} {R : Pl → Hp → α → β → Prop} {ca : Env → Sto → Option (Out D)} {k : D → Sto → Option (Out α)} {Q : β → Hp → Prop}
    (h : tG C R (fun ρ s => EV.bnd (ca ρ s) fun x s1 => k x s1) σ H Q) :
    tG C (RD C.X.K) ca σ H fun v H1 => ∃ x m s, SRel C.X.K m s H1 ∧ RD C.X.K m H1 x v ∧ P C R σ m s H1 (k x s) Q := by
  obtain ⟨ρ, m, s, hR, hP⟩ := h
  exact ⟨ρ, m, s, hR, (PX.bnd (R := RD C.X.K) hP).mono fun v H1 ⟨x, m1, s1, t1, S1, rx, hP1⟩ => ⟨x, m1, s1, S1, rx, hP1⟩⟩
theorem args {α β : Type} {R : Pl → Hp → α → β → Prop} {ca : Env → Sto → Option (Out (List D))} {k : List D → Sto → Option (Out α)} {Q : β → Hp → Prop}
    (h : tG C R (fun ρ s => EV.bnd (ca ρ s) fun x s1 => k x s1) σ H Q) :
    tG C (RDs C.X.K) ca σ H fun v H1 => ∃ x m s, SRel C.X.K m s H1 ∧ RDs C.X.K m H1 x v ∧ P C R σ m s H1 (k x s) Q := by
  obtain ⟨ρ, m, s, hR, hP⟩ := h
  exact ⟨ρ, m, s, hR, (PX.bnd (R := RDs C.X.K) hP).mono fun v H1 ⟨x, m1, s1, t1, S1, rx, hP1⟩ => ⟨x, m1, s1, S1, rx, hP1⟩⟩

theorem deref_lst {x : D} {v : V} {xs : List D} (S : SRel K m s H) (r : RD K m H x v) (e : deref s x = .lst xs) : ∃ a vs, v = .ref a ∧ H a = some (.lst vs) ∧ RDs K m H xs vs := by
  cases x with
  | lst ys =>
    obtain ⟨a, vs, e1, _, h, rs⟩ := r
    have e2 : ys = xs := D.lst.inj e
    subst e2
    exact ⟨a, vs, e1, h, rs⟩
  | loc n =>
    obtain ⟨a, e1, ha⟩ := r
    obtain ⟨c, hc, rc⟩ := S.at ha
    cases c with
    | lst ys =>
      obtain ⟨vs, h, rs⟩ := rc
      have e2 : (match s[n]? with | some (.lst xs) => D.lst xs | _ => D.loc n) = .lst xs := e
      rw [hc] at e2
      have e3 : ys = xs := D.lst.inj e2
      subst e3
      exact ⟨a, vs, e1, h, rs⟩
    | dct kvs =>
      have e2 : (match s[n]? with | some (.lst xs) => D.lst xs | _ => D.loc n) = .lst xs := e
      rw [hc] at e2
      cases e2
    | ins fs =>
      have e2 : (match s[n]? with | some (.lst xs) => D.lst xs | _ => D.loc n) = .lst xs := e
      rw [hc] at e2
      cases e2
  | _ => cases e
/-- an operation on two values -/
def BinOk (C : Ct) (r : R2) (f : Sto → D → D → Option D) : Prop :=
  ∀ (x y d : D) (v u : V) (m : Pl) (s : Sto) (H : Hp) (σ : L2.St) (Q : VK), SRel C.X.K m s H → RD C.X.K m H x v → RD C.X.K m H y u → f s x y = some d → P C (RD C.X.K) σ m s H (some (.ok d s)) Q → r v u H Q
theorem BinOk.use {r : R2} {f : Sto → D → D → Option D} (b : BinOk C r f) {ca cb : Env → Sto → Option (Out D)} {Q : VK} (h : tG C (RD C.X.K) (fun ρ s => EV.bnd (ca ρ s) fun x s1 => EV.bnd (cb ρ s1) fun y s2 => pur s2 (f s2 x y)) σ H Q) :
    tOp r (tG C (RD C.X.K) ca) (tG C (RD C.X.K) cb) σ H Q := by
  obtain ⟨ρ, m, s, hR, hP⟩ := two h
  refine ⟨ρ, m, s, hR, hP.mono fun v H1 ⟨ρ1, m1, s1, hR1, hP1⟩ => ⟨ρ1, m1, s1, hR1, hP1.mono fun u H2 ⟨x, y, m2, s2, S, rx, ry, q⟩ => ?_⟩⟩
  obtain ⟨d, e, q⟩ := q.pur
  exact b x y d v u m2 s2 H2 σ Q S rx ry e q

/-! ### + - * // % ** -/
def rAddD (K : PySem.W.Frag) : R2 := fun x y H Q => rI0 (fun i j => .int (i + j)) x y H Q ∨ rCatA K x y H Q ∨ rCat x y H Q
theorem opr_add {X : Cx} : OpR X (binaryOp .Add) (rAddD X.K) := op_add.or (op_catA.or op_cat)
theorem bin_add : BinOk C (rAddD C.X.K) addD := by
  intro x y d v u m s H σ Q S rx ry e q
  unfold addD at e
  split at e
  · rename_i i j
    cases e
    have e1 : v = .int i := rx
    have e2 : u = .int j := ry
    exact .inl ⟨i, j, e1, e2, q.here S rfl⟩
  · rename_i xs ys
    split at e
    · rename_i hz
      cases e
      obtain ⟨a, vs, e1, h1, r1⟩ := rx
      obtain ⟨b, us, e2, h2, r2⟩ := ry
      refine .inr (.inl ⟨a, b, vs, us, e1, e2, h1, h2, by rw [← r1.length, ← r2.length]; exact hz, fun z => ?_, fun z z' => ?_, fun z z' p hp => ?_⟩)
      · subst z
        have : xs = [] := List.length_eq_zero_iff.mp r1.length
        subst this
        exact q.here S ⟨b, us, rfl, h2, r2⟩
      · subst z'
        have : ys = [] := List.length_eq_zero_iff.mp r2.length
        subst this
        exact q.here S ⟨a, vs, rfl, h1, by rw [List.append_nil]; exact r1⟩
      · exact q.fresh S hp ⟨p, vs ++ us, rfl, SqT.of upd_same, RDs.later (.new hp) _ _ (r1.append r2)⟩
    · cases e
  · split at e
    · rename_i xs ys ex ey
      split at e
      · rename_i hz
        cases e
        obtain ⟨a, vs, e1, h1, r1⟩ := deref_lst S rx ex
        obtain ⟨b, us, e2, h2, r2⟩ := deref_lst S ry ey
        refine .inr (.inr ⟨a, b, vs, us, e1, e2, h1, h2, by rw [← r1.length, ← r2.length]; exact hz, fun p hp => ?_⟩)
        exact q.fresh S hp ⟨p, vs ++ us, rfl, S.no hp, upd_same, RDs.later (.new hp) _ _ (r1.append r2)⟩
      · cases e
    · cases e
theorem bin_sub : BinOk C (rI0 fun i j => .int (i - j)) (binD .sub) := by
  intro x y d v u m s H σ Q S rx ry e q
  simp only [binD] at e
  split at e
  · rename_i i j
    cases e
    exact ⟨i, j, rx, ry, q.here S rfl⟩
  · cases e
theorem bin_fdiv : BinOk C (rI CDivN fun i j => .int (i.fdiv j)) (binD .fdiv) := by
  intro x y d v u m s H σ Q S rx ry e q
  simp only [binD] at e
  split at e
  · rename_i i j
    split at e
    · rename_i hc
      cases e
      exact ⟨i, j, rx, ry, hc, q.here S rfl⟩
    · cases e
  · cases e
theorem bin_mod : BinOk C (rI (fun _ j => j ≠ 0) fun i j => .int (i.fmod j)) (binD .mod) := by
  intro x y d v u m s H σ Q S rx ry e q
  simp only [binD] at e
  split at e
  · rename_i i j
    split at e
    · rename_i hc
      cases e
      exact ⟨i, j, rx, ry, hc, q.here S rfl⟩
    · cases e
  · cases e
theorem bin_pow : BinOk C (rI CPow fun i j => .int (i ^ j.toNat)) (binD .pow) := by
  intro x y d v u m s H σ Q S rx ry e q
  simp only [binD] at e
  split at e
  · rename_i i j
    split at e
    · rename_i hc
      cases e
      exact ⟨i, j, rx, ry, hc, q.here S rfl⟩
    · cases e
  · cases e
def rMulD (K : PySem.W.Frag) : R2 := fun x y H Q => rI CMul (fun i j => .int (i * j)) x y H Q ∨ rRepT K x y H Q ∨ rRep x y H Q
theorem opr_mul {X : Cx} : OpR X (binaryOp .Mult) (rMulD X.K) := op_mul.or (op_repT.or op_rep)
theorem bin_mul : BinOk C (rMulD C.X.K) mulD := by
  intro x y d v u m s H σ Q S rx ry e q
  unfold mulD at e
  split at e
  · rename_i i j
    split at e
    · rename_i hc
      cases e
      exact .inl ⟨i, j, rx, ry, hc, q.here S rfl⟩
    · cases e
  · rename_i xs k
    split at e
    · rename_i hz
      cases e
      obtain ⟨a, vs, e1, h1, r1⟩ := rx
      obtain ⟨z1, z2, z3, z4⟩ := hz
      refine .inr (.inl ⟨a, k, vs, e1, ry, h1, fun z => z1 ?_, z2, z3, by rw [← r1.length]; exact z4, fun p hp => ?_⟩)
      · subst z
        exact List.length_eq_zero_iff.mp r1.length
      · exact q.fresh S hp ⟨p, _, rfl, SqT.of upd_same, RDs.later (.new hp) _ _ (r1.rep _)⟩
    · cases e
  · split at e
    · rename_i xs ex
      split at e
      · rename_i hz
        cases e
        obtain ⟨a, vs, e1, h1, r1⟩ := deref_lst S rx ex
        obtain ⟨z1, z2, z3⟩ := hz
        refine .inr (.inr ⟨a, _, vs, e1, ry, h1, z1, z2, by rw [← r1.length]; exact z3, fun p hp => ?_⟩)
        exact q.fresh S hp ⟨p, _, rfl, S.no hp, upd_same, RDs.later (.new hp) _ _ (r1.rep _)⟩
      · cases e
    · cases e
  · cases e

/-! ### comparisons -/
mutual
theorem dp_of : ∀ (d : D) (v : V), cmpable d = true → RD K m H d v → Dp K H v (toPy d)
  | .non, v, _, h => by
    have e : v = .non := h
    rw [e]
    exact .non
  | .bl b, v, _, h => by
    have e : v = .bl b := h
    rw [e]
    exact .bl b
  | .int i, v, _, h => by
    have e : v = .int i := h
    rw [e]
    exact .int i
  | .str x, v, _, h => by
    have e : v = .str x := h
    rw [e]
    exact .str x
  | .tup xs, v, c, h => by
    obtain ⟨a, vs, e, t, r⟩ := h
    rw [e]
    exact .tup t (dps_of xs vs c r)
  | .lst xs, v, c, h => by
    obtain ⟨a, vs, e, _, t, r⟩ := h
    rw [e]
    exact .lst (SqL.of t) (dps_of xs vs c r)
  | .scr ns, v, c, h => by cases c
  | .adr a, v, c, h => by cases c
  | .gf i x, v, c, h => by cases c
  | .loc n, v, c, h => by cases c
theorem dps_of : ∀ (ds : List D) (vs : List V), cmpables ds = true → RDs K m H ds vs → DpAll K H vs (toPys ds)
  | [], vs, _, h => by
    have e : vs = [] := h
    rw [e]
    exact .nil
  | x :: xs, vs, c, h => by
    obtain ⟨v, r, e, h1, h2⟩ := h
    have c' : (cmpable x && cmpables xs) = true := c
    rw [Bool.and_eq_true] at c'
    rw [e]
    exact .cons (dp_of x v c'.1 h1) (dps_of xs r c'.2 h2)
end
theorem dp_deref {d : D} {v : V} (S : SRel K m s H) (r : RD K m H d v) (c : okD (deref s d) = true) : Dp K H v (toPy (deref s d)) ∧ SeqAt.shaped (toPy (deref s d)) = true := by
  unfold okD at c
  rw [Bool.and_eq_true] at c
  refine ⟨?_, c.2⟩
  cases d with
  | loc n =>
    obtain ⟨a, e1, ha⟩ := r
    obtain ⟨ce, hc, rc⟩ := S.at ha
    cases ce with
    | lst ys =>
      obtain ⟨vs, h, rs⟩ := rc
      have e2 : deref s (.loc n) = .lst ys := by
        show (match s[n]? with | some (.lst xs) => D.lst xs | _ => D.loc n) = _
        rw [hc]
      rw [e2] at c ⊢
      rw [e1]
      exact .lst (SqL.of h) (dps_of ys vs c.1 rs)
    | dct kvs =>
      have e2 : deref s (.loc n) = .loc n := by
        show (match s[n]? with | some (.lst xs) => D.lst xs | _ => D.loc n) = _
        rw [hc]
      rw [e2] at c
      cases c.1
    | ins fs =>
      have e2 : deref s (.loc n) = .loc n := by
        show (match s[n]? with | some (.lst xs) => D.lst xs | _ => D.loc n) = _
        rw [hc]
      rw [e2] at c
      cases c.1
  | _ => exact dp_of _ v c.1 r
theorem bin_eq : BinOk C (rEqD C.X.K) (fun s x y => (eqD s x y).map .bl) := by
  intro x y d v u m s H σ Q S rx ry e q
  obtain ⟨b, f1, g1⟩ := Option.map_eq_some_iff.mp e
  clear e
  subst g1
  have e := f1
  clear f1
  unfold eqD at e
  split at e
  · rename_i hc
    cases e
    rw [Bool.and_eq_true] at hc
    obtain ⟨d1, z1⟩ := dp_deref S rx hc.1
    obtain ⟨d2, z2⟩ := dp_deref S ry hc.2
    exact ⟨_, _, d1, d2, z1, z2, q.here S rfl⟩
  · cases e
theorem bin_ne : BinOk C (rNeD C.X.K) (fun s x y => ((eqD s x y).map (!·)).map .bl) := by
  intro x y d v u m s H σ Q S rx ry e q
  obtain ⟨b1, f1, g1⟩ := Option.map_eq_some_iff.mp e
  clear e
  subst g1
  obtain ⟨b, e, g2⟩ := Option.map_eq_some_iff.mp f1
  clear f1
  subst g2
  unfold eqD at e
  split at e
  · rename_i hc
    cases e
    rw [Bool.and_eq_true] at hc
    obtain ⟨d1, z1⟩ := dp_deref S rx hc.1
    obtain ⟨d2, z2⟩ := dp_deref S ry hc.2
    exact ⟨_, _, d1, d2, z1, z2, q.here S rfl⟩
  · cases e
/-- order of ints -/
theorem bin_ord {g : Int → Int → Bool} {f : Sto → D → D → Option D} (hf : ∀ s x y d, f s x y = some d → ∃ i j, x = .int i ∧ y = .int j ∧ d = .bl (g i j)) : BinOk C (rI0 fun i j => .bl (g i j)) f := by
  intro x y d v u m s H σ Q S rx ry e q
  obtain ⟨i, j, rfl, rfl, rfl⟩ := hf s x y d e
  exact ⟨i, j, rx, ry, q.here S rfl⟩
theorem bin_lt : BinOk C (rI0 fun i j => .bl (decide (i < j))) (fun s x y => (cmpD .lt s x y).map .bl) := bin_ord fun s x y d e => by
  simp only [cmpD] at e
  split at e
  · cases e
    exact ⟨_, _, rfl, rfl, rfl⟩
  · cases e
theorem bin_le : BinOk C (rI0 fun i j => .bl (decide (i ≤ j))) (fun s x y => (cmpD .le s x y).map .bl) := bin_ord fun s x y d e => by
  simp only [cmpD] at e
  split at e
  · cases e
    exact ⟨_, _, rfl, rfl, rfl⟩
  · cases e
theorem bin_gt : BinOk C (rI0 fun i j => .bl (decide (j < i))) (fun s x y => (cmpD .gt s x y).map .bl) := bin_ord fun s x y d e => by
  simp only [cmpD] at e
  split at e
  · cases e
    exact ⟨_, _, rfl, rfl, rfl⟩
  · cases e
theorem bin_ge : BinOk C (rI0 fun i j => .bl (decide (j ≤ i))) (fun s x y => (cmpD .ge s x y).map .bl) := bin_ord fun s x y d e => by
  simp only [cmpD] at e
  split at e
  · cases e
    exact ⟨_, _, rfl, rfl, rfl⟩
  · cases e
/-- is, is not -/
def rIsD : R2 := fun x y H Q => (y = .non ∧ Q (.bl (decide (x = .non))) H) ∨ rIsB x y H Q
def rIsND : R2 := fun x y H Q => (y = .non ∧ Q (.bl (!decide (x = .non))) H) ∨ rNotB x y H Q
theorem opr_is {X : Cx} : OpR X (compareOp .Is) rIsD := op_isN.or op_isBl
theorem opr_isnot {X : Cx} : OpR X (compareOp .IsNot) rIsND := op_notN.or op_notBl
theorem isD_val {x y : D} {b : Bool} {v u : V} (e : isD x y = some b) (rx : RD K m H x v) (ry : RD K m H y u) : (u = .non ∧ b = decide (v = .non)) ∨ ∃ p q, v = .bl p ∧ u = .bl q ∧ b = decide (p = q) := by
  unfold isD at e
  split at e
  · cases e
    have e1 : v = .non := rx
    exact .inl ⟨ry, by rw [e1]; simp⟩
  · cases e
    have e1 : v = .bl _ := rx
    exact .inl ⟨ry, by rw [e1]; simp⟩
  · cases e
    have e1 : v = .int _ := rx
    exact .inl ⟨ry, by rw [e1]; simp⟩
  · cases e
    have e1 : v = .str _ := rx
    exact .inl ⟨ry, by rw [e1]; simp⟩
  · cases e
    obtain ⟨a, _, e1, _⟩ := rx
    exact .inl ⟨ry, by rw [e1]; simp⟩
  · cases e
    obtain ⟨a, _, e1, _⟩ := rx
    exact .inl ⟨ry, by rw [e1]; simp⟩
  · cases e
    obtain ⟨a, e1, _⟩ := rx
    exact .inl ⟨ry, by rw [e1]; simp⟩
  · cases e
    obtain ⟨a, e1, _⟩ := rx
    exact .inl ⟨ry, by rw [e1]; simp⟩
  · cases e
    exact .inr ⟨_, _, rx, ry, rfl⟩
  · cases e
theorem bin_is : BinOk C rIsD (fun s x y => (isD x y).map .bl) := by
  intro x y d v u m s H σ Q S rx ry e q
  obtain ⟨b, f1, g1⟩ := Option.map_eq_some_iff.mp e
  clear e
  subst g1
  have e := f1
  clear f1
  have q := q.here S (show RD C.X.K m H (.bl b) (.bl b) from rfl)
  rcases isD_val e rx ry with ⟨h1, h2⟩ | ⟨p, r, h1, h2, h3⟩
  · rw [h2] at q
    exact .inl ⟨h1, q⟩
  · rw [h3] at q
    exact .inr ⟨p, r, h1, h2, q⟩
theorem bin_isnot : BinOk C rIsND (fun s x y => ((isD x y).map (!·)).map .bl) := by
  intro x y d v u m s H σ Q S rx ry e q
  obtain ⟨b1, f1, g1⟩ := Option.map_eq_some_iff.mp e
  clear e
  subst g1
  obtain ⟨b, e, g2⟩ := Option.map_eq_some_iff.mp f1
  clear f1
  subst g2
  have q := q.here S (show RD C.X.K m H (.bl (!b)) (.bl (!b)) from rfl)
  rcases isD_val e rx ry with ⟨h1, h2⟩ | ⟨p, r, h1, h2, h3⟩
  · rw [h2] at q
    exact .inl ⟨h1, q⟩
  · rw [h3] at q
    exact .inr ⟨p, r, h1, h2, q⟩
end
end EV

/-! in, subscripts, slices, built-in functions -/
namespace EV
open PySem PySem.Spec PyProof.Rows L2

section
variable {C : Ct} {m m1 m2 : Pl} {H H1 H2 : Hp} {s s1 s2 : Sto} {ρ : Env} {σ : L2.St} {K : PySem.W.Frag}
/-! ### in -/
def rDin : R2 := fun x y H Q => ∃ a o, y = .ref a ∧ DGet H a x o ∧ Q (.bl o.isSome) H
def rDnotin : R2 := fun x y H Q => ∃ a o, y = .ref a ∧ DGet H a x o ∧ Q (.bl (!o.isSome)) H
theorem opr_din {X : Cx} (hu : X.A.units + 1 < cLine) : OpR X (compareOp .In) rDin := by
  intro pins s σ H x y v u Q I rx ry h
  obtain ⟨a, o, e, g, q⟩ := h
  subst e
  obtain rfl : u = Value.ref a := ry
  exact d_in hu I g rx fun s3 I3 => ⟨.bl o.isSome, H, I3, rfl, q⟩
theorem opr_dnotin {X : Cx} (hu : X.A.units + 1 < cLine) : OpR X (compareOp .NotIn) rDnotin := by
  intro pins s σ H x y v u Q I rx ry h
  obtain ⟨a, o, e, g, q⟩ := h
  subst e
  obtain rfl : u = Value.ref a := ry
  exact d_notIn hu I g rx fun s3 I3 => ⟨.bl (!o.isSome), H, I3, rfl, q⟩
def rInAll (K : PySem.W.Frag) : R2 := fun x y H Q => rIn K false x y H Q ∨ rInD K x y H Q ∨ rDin x y H Q
def rNotInAll (K : PySem.W.Frag) : R2 := fun x y H Q => rIn K true x y H Q ∨ rNotInD K x y H Q ∨ rDnotin x y H Q
theorem opr_in {X : Cx} (hu : X.A.units + 65 < cLine) : OpR X (compareOp .In) (rInAll X.K) := op_in_seq.or ((op_inD hu).or (opr_din (by omega)))
theorem opr_notin {X : Cx} (hu : X.A.units + 65 < cLine) : OpR X (compareOp .NotIn) (rNotInAll X.K) := op_notIn_seq.or ((op_notInD hu).or (opr_dnotin (by omega)))
theorem flat_of {d : D} {v : V} (f : flatD d = true) (r : RD K m H d v) : flatV v = true := by
  cases d with
  | non => rw [show v = .non from r]; rfl
  | bl b => rw [show v = .bl b from r]; rfl
  | int i => rw [show v = .int i from r]; rfl
  | str x => rw [show v = .str x from r]; rfl
  | _ => cases f
theorem eqv_flat {d e : D} {v u : V} (f : flatD d = true) (g : flatD e = true) (r : RD K m H d v) (q : RD K m H e u) : eqV v u = PyData.eqv (toPy d) (toPy e) := by
  cases d with
  | non =>
    rw [show v = .non from r]
    cases e with
    | non => rw [show u = .non from q]; rfl
    | bl b => rw [show u = .bl b from q]; rfl
    | int i => rw [show u = .int i from q]; rfl
    | str x => rw [show u = .str x from q]; rfl
    | _ => cases g
  | bl b =>
    rw [show v = .bl b from r]
    cases e with
    | non => rw [show u = .non from q]; rfl
    | bl b => rw [show u = .bl b from q]; rfl
    | int i => rw [show u = .int i from q]; rfl
    | str x => rw [show u = .str x from q]; rfl
    | _ => cases g
  | int i =>
    rw [show v = .int i from r]
    cases e with
    | non => rw [show u = .non from q]; rfl
    | bl b => rw [show u = .bl b from q]; rfl
    | int i => rw [show u = .int i from q]; rfl
    | str x => rw [show u = .str x from q]; rfl
    | _ => cases g
  | str x =>
    rw [show v = .str x from r]
    cases e with
    | non => rw [show u = .non from q]; rfl
    | bl b => rw [show u = .bl b from q]; rfl
    | int i => rw [show u = .int i from q]; rfl
    | str x => rw [show u = .str x from q]; rfl
    | _ => cases g
  | _ => cases f
theorem all_flat : ∀ {ds : List D} {vs : List V}, ds.all flatD = true → RDs K m H ds vs → vs.all flatV = true
  | [], vs, _, h => by
    rw [show vs = [] from h]
    rfl
  | x :: xs, vs, f, h => by
    obtain ⟨v, r, rfl, h1, h2⟩ := h
    rw [List.all_cons, Bool.and_eq_true] at f ⊢
    exact ⟨flat_of f.1 h1, all_flat f.2 h2⟩
theorem any_flat {d : D} {v : V} (f : flatD d = true) (r : RD K m H d v) : ∀ {ds : List D} {vs : List V}, ds.all flatD = true → RDs K m H ds vs → inV v vs = ds.any fun y => PyData.eqv (toPy y) (toPy d)
  | [], vs, _, h => by
    rw [show vs = [] from h]
    rfl
  | x :: xs, vs, g, h => by
    obtain ⟨u, t, rfl, h1, h2⟩ := h
    rw [List.all_cons, Bool.and_eq_true] at g
    have ih := any_flat f r g.2 h2
    unfold inV at ih ⊢
    rw [List.any_cons, List.any_cons, eqv_flat g.1 f h1 r, ih]
theorem toPys_map : ∀ ds : List D, toPys ds = ds.map toPy
  | [] => rfl
  | x :: xs => by
    show toPy x :: toPys xs = _
    rw [toPys_map xs]
    rfl
theorem getK_val : ∀ {ds : List (Key × D)} {vs : List (Key × V)} (k : Key), RKs K m H ds vs → (getK ds k).isSome = (valV vs k).isSome
  | [], vs, k, h => by
    rw [show vs = [] from h]
    rfl
  | (j, x) :: xs, vs, k, h => by
    obtain ⟨v, r, rfl, h1, h2⟩ := h
    by_cases e : j = k
    · subst e
      rw [valV_pos rfl]
      simp [getK, List.find?_cons]
    · rw [valV_neg e, ← getK_val k h2]
      simp [getK, List.find?_cons, e]
theorem key_rel {d : D} {k : Key} {v : V} (e : keyD d = some k) (r : RD K m H d v) : v = kV k := by
  cases d with
  | int i =>
    cases e
    exact r
  | str x =>
    cases e
    exact r
  | _ => cases e
/-- what in gives -/
theorem inD_val {x y : D} {b : Bool} {v u : V} (S : SRel K m s H) (e : inD s x y = some b) (rx : RD K m H x v) (ry : RD K m H y u) :
    (∃ p xs, u = .ref p ∧ SqT K H p xs ∧ flatV v = true ∧ xs.all flatV = true ∧ b = inV v xs) ∨
    (∃ d ds, Dp K H v d ∧ Dp K H u (.list ds) ∧ SeqAt.shaped d = true ∧ SeqAt.shaped (.list ds) = true ∧ b = ds.any fun z => PyData.eqv z d) ∨
    ∃ a o, u = .ref a ∧ DGet H a v o ∧ b = o.isSome := by
  unfold inD at e
  split at e
  · rename_i ys
    split at e
    · rename_i hc
      cases e
      rw [Bool.and_eq_true] at hc
      obtain ⟨a, vs, e1, h1, r1⟩ := ry
      exact .inl ⟨a, vs, e1, h1, flat_of hc.1 rx, all_flat hc.2 r1, (any_flat hc.1 rx hc.2 r1).symm⟩
    · cases e
  · split at e
    · rename_i ys ey
      split at e
      · rename_i hc
        cases e
        rw [Bool.and_eq_true] at hc
        have hx := hc.1
        have hd : deref s x = x := by
          cases x with
          | loc n =>
            unfold okD at hx
            rw [Bool.and_eq_true] at hx
            cases hx.1
          | _ => rfl
        obtain ⟨d1, z1⟩ := dp_deref S rx (by rw [hd]; exact hx)
        rw [hd] at d1 z1
        obtain ⟨d2, z2⟩ := dp_deref S ry (by rw [ey]; exact hc.2)
        rw [ey] at d2 z2
        have e3 : toPy (.lst ys) = .list (ys.map toPy) := by
          show PyData.list (toPys ys) = _
          rw [toPys_map]
        rw [e3] at d2 z2
        exact .inr (.inl ⟨_, _, d1, d2, z1, z2, by rw [List.any_map]; rfl⟩)
      · cases e
    · rename_i n ey
      split at e
      · rename_i kvs k hs hk
        cases e
        have hy : y = .loc n := by
          cases y with
          | loc j =>
            have ey' : (match s[j]? with | some (.lst xs) => D.lst xs | _ => D.loc j) = .loc n := ey
            split at ey'
            · cases ey'
            · exact ey'
          | _ => cases ey
        subst hy
        obtain ⟨a, e1, ha⟩ := ry
        obtain ⟨c, hc, rc⟩ := S.at ha
        rw [hs] at hc
        cases hc
        obtain ⟨vs, h1, h2⟩ := rc
        refine .inr (.inr ⟨a, valV vs k, e1, ?_, getK_val k h2⟩)
        rw [key_rel hk rx]
        exact DGet.k h1
      · cases e
    · cases e
theorem bin_in : BinOk C (rInAll C.X.K) (fun s x y => (inD s x y).map .bl) := by
  intro x y d v u m s H σ Q S rx ry e q
  obtain ⟨b, f1, g1⟩ := Option.map_eq_some_iff.mp e
  clear e
  subst g1
  have q := q.here S (show RD C.X.K m H (.bl b) (.bl b) from rfl)
  rcases inD_val S f1 rx ry with ⟨p, xs, h1, h2, h3, h4, h5⟩ | ⟨p, r, h1, h2, h3, h4, h5⟩ | ⟨a, o, h1, h2, h3⟩
  · rw [h5] at q
    exact .inl ⟨p, xs, h1, .inr h2, h3, h4, q⟩
  · rw [h5] at q
    exact .inr (.inl ⟨p, r, h1, h2, h3, h4, q⟩)
  · rw [h3] at q
    exact .inr (.inr ⟨a, o, h1, h2, q⟩)
theorem bin_notin : BinOk C (rNotInAll C.X.K) (fun s x y => ((inD s x y).map (!·)).map .bl) := by
  intro x y d v u m s H σ Q S rx ry e q
  obtain ⟨b1, f1, g1⟩ := Option.map_eq_some_iff.mp e
  clear e
  subst g1
  obtain ⟨b, e, g2⟩ := Option.map_eq_some_iff.mp f1
  clear f1
  subst g2
  have q := q.here S (show RD C.X.K m H (.bl (!b)) (.bl (!b)) from rfl)
  rcases inD_val S e rx ry with ⟨p, xs, h1, h2, h3, h4, h5⟩ | ⟨p, r, h1, h2, h3, h4, h5⟩ | ⟨a, o, h1, h2, h3⟩
  · rw [h5] at q
    exact .inl ⟨p, xs, h1, .inr h2, h3, h4, q⟩
  · rw [h5] at q
    exact .inr (.inl ⟨p, r, h1, h2, h3, h4, q⟩)
  · rw [h3] at q
    exact .inr (.inr ⟨a, o, h1, h2, q⟩)

/-! ### subscripts -/
theorem atI_rds {ds : List D} {vs : List V} {i : Int} {d : D} (h : RDs K m H ds vs) (e : atI ds i = some d) : ∃ v, atI vs i = some v ∧ RD K m H d v := by
  unfold atI at e ⊢
  obtain ⟨j, h1, h2⟩ := Option.bind_eq_some_iff.mp e
  obtain ⟨v, h3, h4⟩ := h.get h2
  refine ⟨v, ?_, h4⟩
  rw [← h.length, h1]
  exact h3
theorem getK_some : ∀ {ds : List (Key × D)} {vs : List (Key × V)} {k : Key} {d : D}, RKs K m H ds vs → getK ds k = some d → ∃ v, valV vs k = some v ∧ RD K m H d v
  | [], vs, k, d, h, e => by cases e
  | (j, x) :: xs, vs, k, d, h, e => by
    obtain ⟨v, r, rfl, h1, h2⟩ := h
    by_cases z : j = k
    · subst z
      have : x = d := by
        unfold getK at e
        rw [List.find?_cons_of_pos (by simp)] at e
        exact Option.some.inj e
      subst this
      exact ⟨v, valV_pos rfl, h1⟩
    · have e : getK xs k = some d := by
        unfold getK at e ⊢
        rw [List.find?_cons_of_neg (by simpa using z)] at e
        exact e
      obtain ⟨w, h3, h4⟩ := getK_some h2 e
      exact ⟨w, by rw [valV_neg z]; exact h3, h4⟩
def rIxDK : R2 := fun x y H Q => ∃ a v, x = .ref a ∧ DGet H a y (some v) ∧ Q v H
theorem ix_dk {X : Cx} (hu : X.A.units + 1 < cLine) : IxR X rIxDK := by
  intro value slice pins s σ H x y v u Q I rx ry h hs
  obtain ⟨a, z, ex, g, q⟩ := h
  subst ex
  obtain rfl : v = Value.ref a := rx
  exact tail_any (ops := [.ref a, u]) (dict_typeIs I g) PySem.F.slot_dict_getitem.lookup (d_getItem hu I g ry fun w' s3 I3 rw' => ⟨z, H, I3, rw', q⟩) hs
def rIxA (K : PySem.W.Frag) : R2 := fun x y H Q => rIx K x y H Q ∨ rIxDK x y H Q
theorem dct_use {x y d : D} {v u : V} {m : Pl} {s : Sto} {H : Hp} {σ : L2.St} {Q : VK} (S : SRel C.X.K m s H) (rx : RD C.X.K m H x v) (ry : RD C.X.K m H y u) (e : dctD s x y = some d) (q : P C (RD C.X.K) σ m s H (some (.ok d s)) Q) : rIxDK v u H Q := by
  unfold dctD at e
  split at e
  · rename_i n
    split at e
    · rename_i kvs k hs hk
      obtain ⟨a, e1, h1⟩ := rx
      obtain ⟨b, h2, h3⟩ := S.cell n _ hs
      rw [h1] at h2
      cases h2
      obtain ⟨vs, h4, h5⟩ := h3
      obtain ⟨w, h6, h7⟩ := getK_some h5 e
      refine ⟨a, w, e1, ?_, q.here S h7⟩
      rw [key_rel hk ry, ← h6]
      exact DGet.k h4
    · cases e
  · cases e
theorem bin_idx : BinOk C (rIxA C.X.K) idxD := by
  intro x y d v u m s H σ Q S rx ry e q
  unfold idxD at e
  split at e
  · rename_i k
    split at e
    · rename_i xs
      obtain ⟨a, vs, e1, h1, r1⟩ := rx
      obtain ⟨w, h2, h3⟩ := atI_rds r1 e
      exact .inl (.inr (.inl ⟨a, vs, k, w, e1, ry, h1, h2, q.here S h3⟩))
    · rename_i ns
      obtain ⟨a, e1, h1⟩ := rx
      obtain ⟨i, h2, h3⟩ := Option.map_eq_some_iff.mp e
      subst h3
      refine .inl (.inl ⟨a, ns.map V.int, k, .int i, e1, ry, h1.seq, ?_, q.here S rfl⟩)
      unfold atI at h2 ⊢
      obtain ⟨j, h4, h5⟩ := Option.bind_eq_some_iff.mp h2
      rw [List.length_map, h4]
      show (ns.map V.int)[j]? = some (.int i)
      rw [List.getElem?_map, h5]
      rfl
    · split at e
      · rename_i xs ex
        obtain ⟨a, vs, e1, h1, r1⟩ := deref_lst S rx ex
        obtain ⟨w, h2, h3⟩ := atI_rds r1 e
        exact .inl (.inl ⟨a, vs, k, w, e1, ry, SqL.of h1, h2, q.here S h3⟩)
      · exact .inr (dct_use S rx ry e q)
  · exact .inr (dct_use S rx ry e q)
  · cases e

/-! ### slices -/
def rSlAll (K : PySem.W.Frag) : V → Option Int → Option Int → Hp → VK → Prop := fun x lo hi H Q => rSlA K x lo hi H Q ∨ rSlL K x lo hi H Q
theorem slr_all {X : Cx} : SlR X (rSlAll X.K) := sl_tupA.or sl_list
theorem cut_rds {ds : List D} {vs : List V} {lo hi : Option Int} (h : RDs K m H ds vs) : RDs K m H (cutD ds lo hi) (cutV vs lo hi) := by
  unfold cutD cutV
  rw [← h.length]
  exact (h.drop _).take _
theorem slc_ok {x d : D} {v : V} {lo hi : Option Int} {Q : VK} (S : SRel C.X.K m s H) (rx : RD C.X.K m H x v) (e : slcD s x lo hi = some d) (q : P C (RD C.X.K) σ m s H (some (.ok d s)) Q) : rSlAll C.X.K v lo hi H Q := by
  unfold slcD at e
  split at e
  · rename_i xs
    cases e
    obtain ⟨a, vs, e1, h1, r1⟩ := rx
    refine .inl ⟨a, vs, e1, h1, fun z => ?_, fun z p hp => ?_⟩
    · refine q.here S ⟨a, vs, rfl, h1, ?_⟩
      have e2 : cutD xs lo hi = xs := by
        unfold cutD
        rw [r1.length, z.1, z.2, List.drop_zero]
        exact List.take_of_length_le (by rw [← r1.length]; omega)
      rw [e2]
      exact r1
    · exact q.fresh S hp ⟨p, _, rfl, SqT.of upd_same, RDs.later (.new hp) _ _ (cut_rds r1)⟩
  · split at e
    · rename_i xs ex
      cases e
      obtain ⟨a, vs, e1, h1, r1⟩ := deref_lst S rx ex
      exact .inr ⟨a, vs, e1, SqL.of h1, fun p hp => q.fresh S hp ⟨p, _, rfl, S.no hp, upd_same, RDs.later (.new hp) _ _ (cut_rds r1)⟩⟩
    · cases e

/-! ### built-in functions -/
theorem seqOf_val {x : D} {v : V} {xs : List D} (S : SRel K m s H) (r : RD K m H x v) (e : seqOf s x = some xs) :
    ∃ a vs, v = .ref a ∧ RDs K m H xs vs ∧ (SqL K H a vs ∨ SqT K H a vs) := by
  unfold seqOf at e
  split at e
  · cases e
    obtain ⟨a, vs, e1, h1, r1⟩ := r
    exact ⟨a, vs, e1, r1, .inr h1⟩
  · split at e
    · rename_i ys ex
      cases e
      obtain ⟨a, vs, e1, h1, r1⟩ := deref_lst S r ex
      exact ⟨a, vs, e1, r1, .inl (SqL.of h1)⟩
    · cases e
theorem maxI_mem : ∀ (l : List Int) (m : Int), maxI m l ∈ m :: l ∧ ∀ y ∈ m :: l, y ≤ maxI m l
  | [], m => by
    show m ∈ [m] ∧ ∀ y ∈ [m], y ≤ m
    simp
  | x :: r, m => by
    have h : maxI m (x :: r) = maxI (if m < x then x else m) r := rfl
    rw [h]
    obtain ⟨h1, h2⟩ := maxI_mem r (if m < x then x else m)
    constructor
    · rcases List.mem_cons.mp h1 with e | e
      · rw [e]
        split <;> simp
      · exact List.mem_cons_of_mem _ (List.mem_cons_of_mem _ e)
    · intro y hy
      have h3 := h2 (if m < x then x else m) List.mem_cons_self
      have h4 : m ≤ (if m < x then x else m) ∧ x ≤ (if m < x then x else m) := by split <;> omega
      generalize maxI (if m < x then x else m) r = M at *
      rcases List.mem_cons.mp hy with e | hy
      · omega
      · rcases List.mem_cons.mp hy with e | hy
        · omega
        · exact h2 y (List.mem_cons_of_mem _ hy)
theorem minI_mem : ∀ (l : List Int) (m : Int), minI m l ∈ m :: l ∧ ∀ y ∈ m :: l, minI m l ≤ y
  | [], m => by
    show m ∈ [m] ∧ ∀ y ∈ [m], m ≤ y
    simp
  | x :: r, m => by
    have h : minI m (x :: r) = minI (if x < m then x else m) r := rfl
    rw [h]
    obtain ⟨h1, h2⟩ := minI_mem r (if x < m then x else m)
    constructor
    · rcases List.mem_cons.mp h1 with e | e
      · rw [e]
        split <;> simp
      · exact List.mem_cons_of_mem _ (List.mem_cons_of_mem _ e)
    · intro y hy
      have h3 := h2 (if x < m then x else m) List.mem_cons_self
      have h4 : (if x < m then x else m) ≤ m ∧ (if x < m then x else m) ≤ x := by split <;> omega
      generalize minI (if x < m then x else m) r = M at *
      rcases List.mem_cons.mp hy with e | hy
      · omega
      · rcases List.mem_cons.mp hy with e | hy
        · omega
        · exact h2 y (List.mem_cons_of_mem _ hy)
theorem max_one {ns : List Int} {a b : Int} (h1 : a ∈ ns) (h2 : ∀ y ∈ ns, y ≤ a) (h3 : b ∈ ns) (h4 : ∀ y ∈ ns, y ≤ b) : a = b := by
  have := h2 b h3
  have := h4 a h1
  omega
theorem min_one {ns : List Int} {a b : Int} (h1 : a ∈ ns) (h2 : ∀ y ∈ ns, a ≤ y) (h3 : b ∈ ns) (h4 : ∀ y ∈ ns, b ≤ y) : a = b := by
  have := h2 b h3
  have := h4 a h1
  omega
theorem RDs.one {x : D} {vs : List V} (h : RDs K m H [x] vs) : ∃ v, vs = [v] ∧ RD K m H x v := by
  obtain ⟨v, r, rfl, h1, h2⟩ := h
  have e : r = [] := h2
  subst e
  exact ⟨v, rfl, h1⟩
theorem RDs.two {x y : D} {vs : List V} (h : RDs K m H [x, y] vs) : ∃ v u, vs = [v, u] ∧ RD K m H x v ∧ RD K m H y u := by
  obtain ⟨v, r, rfl, h1, h2⟩ := h
  obtain ⟨u, e, h3⟩ := h2.one
  subst e
  exact ⟨v, u, rfl, h1, h3⟩
def biName : BI → Str
  | .len => "len" | .int => "int" | .max => "max" | .min => "min" | .sum => "sum" | .all => "all" | .list => "list" | .tuple => "tuple" | .repr => "repr"
/-- the built-in function or class itself -/
def biVal : BI → Value
  | .len => .builtin "len" | .int => .type "int" | .max => .builtin "max" | .min => .builtin "min" | .sum => .builtin "sum" | .all => .builtin "all" | .list => .type "list" | .tuple => .type "tuple" | .repr => .builtin "repr"
/-- what a built-in function's rule asks, as our evaluator gives it -/
def rBi (C : Ct) (b : BI) : List V → Hp → VK → Prop := fun vs H Q => ∃ (ds : List D) (d : D) (m : Pl) (s : Sto) (σ : L2.St), SRel C.X.K m s H ∧ RDs C.X.K m H ds vs ∧ biD b s ds = some d ∧ P C (RD C.X.K) σ m s H (some (.ok d s)) Q
theorem CallR.imp {X : Cx} {f : Value} {r r' : List V → Hp → VK → Prop} (h : CallR X f r) (w : ∀ vs H Q, r' vs H Q → r vs H Q) : CallR X f r' := fun pins s σ H xs us Q I rv q => h pins s σ H xs us Q I rv (w _ _ _ q)
theorem fin_bi {b : BI} {ds : List D} {vs : List V} {R : Prop} (S : SRel C.X.K m s H) (rs : RDs C.X.K m H ds vs) {d : D} (e : biD b s ds = some d)
    (h1 : ∀ a v, vs = [v] → RD C.X.K m H a v → bi1 b s a = some d → R) (h2 : ∀ a a' v v', vs = [v, v'] → RD C.X.K m H a v → RD C.X.K m H a' v' → bi2 b a a' = some d → R) : R := by
  match ds, e, rs with
  | [a], e, rs =>
    obtain ⟨v, rfl, r⟩ := rs.one
    exact h1 a v rfl r e
  | [a, a'], e, rs =>
    obtain ⟨v, u, rfl, r1, r2⟩ := rs.two
    exact h2 a a' v u rfl r1 r2 e
theorem bi_len : CallR C.X (.builtin "len") (rBi C .len) := by
  refine CallR.imp call_len_seq fun vs H Q h => ?_
  obtain ⟨ds, d, m, s, σ, S, rs, e, q⟩ := h
  refine fin_bi S rs e (fun a v ev r e => ?_) fun a a' v v' ev r r' e => by cases e
  subst ev
  unfold bi1 lenD at e
  dsimp only at e
  split at e
  · rename_i ns
    cases e
    obtain ⟨b, e1, h1⟩ := r
    subst e1
    refine ⟨b, ns.map V.int, rfl, .inl h1.seq, ?_⟩
    rw [List.length_map]
    exact q.here S rfl
  · obtain ⟨xs, e1, e2⟩ := Option.map_eq_some_iff.mp e
    subst e2
    obtain ⟨b, us, e3, h1, h2⟩ := seqOf_val S r e1
    subst e3
    refine ⟨b, us, rfl, h2, ?_⟩
    rw [← h1.length]
    exact q.here S rfl
theorem bi_int : CallR C.X (.type "int") (rBi C .int) := by
  refine CallR.imp call_int1 fun vs H Q h => ?_
  obtain ⟨ds, d, m, s, σ, S, rs, e, q⟩ := h
  refine fin_bi S rs e (fun a v ev r e => ?_) fun a a' v v' ev r r' e => by cases e
  subst ev
  unfold bi1 intD at e
  dsimp only at e
  split at e
  · cases e
    exact .inl ⟨_, by rw [show v = .int _ from r], q.here S rfl⟩
  · cases e
    exact .inr ⟨_, by rw [show v = .bl _ from r], q.here S rfl⟩
  · cases e
theorem intsD_val {x : D} {v : V} {ns : List Int} (S : SRel K m s H) (r : RD K m H x v) (e : intsD s x = some ns) : ∃ a, v = .ref a ∧ SqL K H a (ns.map V.int) := by
  unfold intsD at e
  split at e
  · rename_i xs ex
    obtain ⟨a, vs, e1, h1, r1⟩ := deref_lst S r ex
    have e2 := r1.ints e
    subst e2
    exact ⟨a, e1, SqL.of h1⟩
  · cases e
theorem blsD_val {x : D} {v : V} {ns : List Bool} (S : SRel K m s H) (r : RD K m H x v) (e : blsD s x = some ns) : ∃ a, v = .ref a ∧ SqL K H a (ns.map V.bl) := by
  unfold blsD at e
  split at e
  · rename_i xs ex
    obtain ⟨a, vs, e1, h1, r1⟩ := deref_lst S r ex
    have e2 := r1.bls e
    subst e2
    exact ⟨a, e1, SqL.of h1⟩
  · cases e
theorem bi_max (hc : C.X.calm = true) : CallR C.X (.builtin "max") (rBi C .max) := by
  refine CallR.imp ((call_max2 hc).or (cr_max hc)) fun vs H Q h => ?_
  obtain ⟨ds, d, m, s, σ, S, rs, e, q⟩ := h
  refine fin_bi S rs e (fun a v ev r e => ?_) fun a a' v v' ev r r' e => ?_
  · subst ev
    unfold bi1 maxD at e
    dsimp only at e
    split at e
    · rename_i x l hx
      cases e
      obtain ⟨b, e1, h1⟩ := intsD_val S r hx
      subst e1
      refine .inr ⟨b, x :: l, rfl, h1, Nat.succ_pos _, fun mx h2 h3 => ?_⟩
      obtain ⟨h4, h5⟩ := maxI_mem l x
      rw [max_one h2 h3 h4 h5]
      exact q.here S rfl
    · cases e
  · subst ev
    unfold bi2 max2D at e
    dsimp only at e
    split at e
    · cases e
      exact .inl ⟨_, _, by rw [show v = .int _ from r, show v' = .int _ from r'], q.here S rfl⟩
    · cases e
theorem bi_min (hc : C.X.calm = true) : CallR C.X (.builtin "min") (rBi C .min) := by
  refine CallR.imp ((call_min2 hc).or (cr_min hc)) fun vs H Q h => ?_
  obtain ⟨ds, d, m, s, σ, S, rs, e, q⟩ := h
  refine fin_bi S rs e (fun a v ev r e => ?_) fun a a' v v' ev r r' e => ?_
  · subst ev
    unfold bi1 minD at e
    dsimp only at e
    split at e
    · rename_i x l hx
      cases e
      obtain ⟨b, e1, h1⟩ := intsD_val S r hx
      subst e1
      refine .inr ⟨b, x :: l, rfl, h1, Nat.succ_pos _, fun mx h2 h3 => ?_⟩
      obtain ⟨h4, h5⟩ := minI_mem l x
      rw [min_one h2 h3 h4 h5]
      exact q.here S rfl
    · cases e
  · subst ev
    unfold bi2 min2D at e
    dsimp only at e
    split at e
    · cases e
      exact .inl ⟨_, _, by rw [show v = .int _ from r, show v' = .int _ from r'], q.here S rfl⟩
    · cases e
theorem bi_sum (hc : C.X.calm = true) : CallR C.X (.builtin "sum") (rBi C .sum) := by
  refine CallR.imp (cr_sum hc) fun vs H Q h => ?_
  obtain ⟨ds, d, m, s, σ, S, rs, e, q⟩ := h
  refine fin_bi S rs e (fun a v ev r e => ?_) fun a a' v v' ev r r' e => by cases e
  subst ev
  obtain ⟨ns, e1, e2⟩ := Option.map_eq_some_iff.mp (show (intsD s a).map (fun ns => D.int ns.sum) = some d from e)
  subst e2
  obtain ⟨b, e3, h1⟩ := intsD_val S r e1
  subst e3
  exact ⟨b, ns, rfl, h1, q.here S rfl⟩
theorem bi_all (hc : C.X.calm = true) : CallR C.X (.builtin "all") (rBi C .all) := by
  refine CallR.imp (cr_all hc) fun vs H Q h => ?_
  obtain ⟨ds, d, m, s, σ, S, rs, e, q⟩ := h
  refine fin_bi S rs e (fun a v ev r e => ?_) fun a a' v v' ev r r' e => by cases e
  subst ev
  obtain ⟨ns, e1, e2⟩ := Option.map_eq_some_iff.mp (show (blsD s a).map (fun bs => D.bl (bs.all id)) = some d from e)
  subst e2
  obtain ⟨b, e3, h1⟩ := blsD_val S r e1
  subst e3
  exact ⟨b, ns, rfl, h1, q.here S rfl⟩
theorem bi_list : CallR C.X (.type "list") (rBi C .list) := by
  refine CallR.imp call_list_of fun vs H Q h => ?_
  obtain ⟨ds, d, m, s, σ, S, rs, e, q⟩ := h
  refine fin_bi S rs e (fun a v ev r e => ?_) fun a a' v v' ev r r' e => by cases e
  subst ev
  obtain ⟨xs, e1, e2⟩ := Option.map_eq_some_iff.mp (show (seqOf s a).map D.lst = some d from e)
  subst e2
  obtain ⟨b, us, e3, h1, h2⟩ := seqOf_val S r e1
  subst e3
  exact ⟨b, us, rfl, h2, fun l hl => q.fresh S hl ⟨l, us, rfl, S.no hl, upd_same, RDs.later (.new hl) _ _ h1⟩⟩
theorem bi_tuple : CallR C.X (.type "tuple") (rBi C .tuple) := by
  refine CallR.imp call_tuple_of fun vs H Q h => ?_
  obtain ⟨ds, d, m, s, σ, S, rs, e, q⟩ := h
  refine fin_bi S rs e (fun a v ev r e => ?_) fun a a' v v' ev r r' e => by cases e
  subst ev
  obtain ⟨xs, e1, e2⟩ := Option.map_eq_some_iff.mp (show (seqOf s a).map D.tup = some d from e)
  subst e2
  obtain ⟨b, us, e3, h1, h2⟩ := seqOf_val S r e1
  subst e3
  rcases h2 with h2 | h2
  · exact ⟨b, us, rfl, .inl ⟨h2, fun l hl => q.fresh S hl ⟨l, us, rfl, SqT.of upd_same, RDs.later (.new hl) _ _ h1⟩⟩⟩
  · exact ⟨b, us, rfl, .inr ⟨h2, q.here S ⟨b, us, rfl, h2, h1⟩⟩⟩
end
end EV

/-! one rule a construct, for expressions -/
namespace EV
open PySem PySem.Spec PyProof.Rows L2

section
variable {C : Ct} {m m1 m2 : Pl} {H H1 H2 : Hp} {s s1 s2 : Sto} {ρ : Env} {σ : L2.St} {K : PySem.W.Frag} {L : Nat}
variable {a b c x y z : Expr} {ca cb cc : Env → Sto → Option (Out D)} {pos : Pos}
theorem SE.congr {c' : Env → Sto → Option (Out D)} (h : SE C x ca) (e : ∀ ρ s, ca ρ s = c' ρ s) : SE C x c' := by
  have : ca = c' := funext fun ρ => funext fun s => e ρ s
  rw [← this]
  exact h
theorem bnd_tst {α : Type} {o : Option (Out D)} {t f : Sto → Option (Out α)} : (bnd o fun d s => match d with
    | .bl true => t s
    | .bl false => f s
    | _ => none) = bnd (tst o) fun b s => if b = true then t s else f s := by
  match o with
  | none => rfl
  | some (.exc k s) => rfl
  | some (.ok d s) =>
    cases d with
    | bl b => cases b <;> rfl
    | _ => rfl
theorem se_var {i : Nat} {n : Str} (hN : C.X.N[i]? = some n) (hv : Vis C.X.env.scope n) (hd : (n == ("__debug__" : Str)) = false) (hcd : (n == ("__classdict__" : Str)) = false) :
    SE C (.Name n pos) (fun ρ s => match ρ[i]? with | some (some d) => some (.ok d s) | _ => none) := by
  refine PE.imp (pe_var hN hv hd hcd) fun σ H Q ⟨ρ, m, s, hR, hP⟩ => ?_
  dsimp only at hP
  split at hP
  · rename_i d e
    obtain ⟨v, h1, h2⟩ := hR.env i d e
    exact ⟨v, h1, hP.here hR.sr h2⟩
  · exact (show False from hP).elim
theorem se_const {d : D} {v : V} (h : PE C.X x (tC v)) (r : ∀ m H, RD C.X.K m H d v) : SE C x (fun _ s => some (.ok d s)) :=
  PE.imp h fun σ H Q ⟨ρ, m, s, hR, hP⟩ => hP.here hR.sr (r m H)
theorem se_bin {op : Operator} {r : R2} {f : Sto → D → D → Option D} (ho : OpR C.X (binaryOp op) r) (hb : BinOk C r f) (ha : SE C a ca) (hb' : SE C b cb) :
    SE C (.BinOp a op b pos) (fun ρ s => bnd (ca ρ s) fun x s1 => bnd (cb ρ s1) fun y s2 => pur s2 (f s2 x y)) :=
  PE.imp (pe_op ho ha hb') fun σ H Q h => hb.use h
theorem se_neg (ha : SE C a ca) : SE C (.UnaryOp .USub a pos) (fun ρ s => bnd (ca ρ s) fun x s1 => match x with
    | .int i => some (.ok (.int (-i)) s1)
    | _ => none) := by
  refine PE.imp (pe_un un_neg ha) fun σ H Q h => ?_
  obtain ⟨ρ, m, s, hR, hP⟩ := one h
  refine ⟨ρ, m, s, hR, hP.mono fun v H1 ⟨x, m1, s1, S, rx, q⟩ => ?_⟩
  cases x with
  | int i => exact ⟨i, rx, q.here S rfl⟩
  | _ => exact (show False from q).elim
theorem se_not (ha : SE C a ca) : SE C (.UnaryOp .Not a pos) (fun ρ s => bnd (ca ρ s) fun x s1 => match x with
    | .bl k => some (.ok (.bl (!k)) s1)
    | _ => none) := by
  refine PE.imp (pe_not ha) fun σ H Q h => ?_
  obtain ⟨ρ, m, s, hR, hP⟩ := one h
  refine ⟨ρ, m, s, hR, hP.mono fun v H1 ⟨x, m1, s1, S, rx, q⟩ => ?_⟩
  cases x with
  | bl i => exact ⟨i, rx, q.here S rfl⟩
  | _ => exact (show False from q).elim
theorem st_not (ha : ST C a ca) : ST C (.UnaryOp .Not a pos) (fun ρ s => bnd (ca ρ s) fun x s1 => match x with
    | .bl k => some (.ok (.bl (!k)) s1)
    | _ => none) := by
  refine PT.imp (pt_not ha) fun σ H Q ⟨ρ, m, s, hR, hP⟩ => ?_
  refine ⟨ρ, m, s, hR, ?_⟩
  dsimp only at hP ⊢
  generalize ca ρ s = o at hP ⊢
  match o, hP with
  | none, hP => exact (show False from hP).elim
  | some (.exc k s1), hP => exact hP
  | some (.ok d s1), hP =>
    cases d with
    | bl k => exact fun m' H' b h1 h2 h3 => hP m' H' (!b) h1 h2 (by rw [show k = b from h3])
    | _ => exact (show False from hP).elim
theorem se_cmp {op : CmpOp} {r : R2} {f : Sto → D → D → Option D} (ho : OpR C.X (compareOp op) r) (hb : BinOk C r f) (hm : behindInMarks op b = false) (ha : SE C a ca) (hb' : SE C b cb) :
    SE C (.Compare a [op] [b] pos) (fun ρ s => bnd (ca ρ s) fun x s1 => bnd (cb ρ s1) fun y s2 => pur s2 (f s2 x y)) :=
  PE.imp (pe_cmpR ho ha hb' hm) fun σ H Q h => hb.use h
/-- a value that is wanted as a truth value -/
theorem PX.tst {o : Option (Out D)} {Q : Bool → Hp → Prop} (h : P C RB σ m s H (tst o) Q) : P C (RD C.X.K) σ m s H o (fun v H' => ∃ b, v = .bl b ∧ Q b H') := by
  match o, h with
  | none, h => exact h.elim
  | some (.exc k s1), h => exact h
  | some (.ok d s1), h =>
    cases d with
    | bl k => exact fun m' H' v h1 h2 h3 => ⟨k, h3, h m' H' k h1 h2 rfl⟩
    | _ => exact (show False from h).elim
theorem st_cmp {op : CmpOp} {r : R2} {f : Sto → D → D → Option D} (ho : OpR C.X (compareOp op) r) (hb : BinOk C r f) (hm : behindInMarks op b = false) (ha : SE C a ca) (hb' : SE C b cb) :
    ST C (.Compare a [op] [b] pos) (fun ρ s => bnd (ca ρ s) fun x s1 => bnd (cb ρ s1) fun y s2 => pur s2 (f s2 x y)) := by
  refine PT.imp (pt_cmpR ho ha hb' hm) fun σ H Q ⟨ρ, m, s, hR, hP⟩ => ?_
  exact hb.use ⟨ρ, m, s, hR, hP.tst⟩
/-- as a test, where the test is the value's truth -/
theorem st_val (h : SE C x ca) (he : ∀ whole, isTrue x C.X.env whole = (do let v ← whole; standAt x.pos; holding [v] (truthy v))) : ST C x ca :=
  PT.imp (pt_val h he) fun σ H Q ⟨ρ, m, s, hR, hP⟩ => ⟨ρ, m, s, hR, hP.tst⟩
/-- a chain of two comparisons -/
theorem chain_use {r r' : R2} {f g : Sto → D → D → Option Bool} {Q : VK} (h1 : BinOk C r fun s x y => (f s x y).map .bl) (h2 : BinOk C r' fun s x y => (g s x y).map .bl)
    (h : tG C (RD C.X.K) (fun ρ s => bnd (ca ρ s) fun x s1 => bnd (cb ρ s1) fun y s2 => match f s2 x y with
      | some true => bnd (cc ρ s2) fun z s3 => pur s3 ((g s3 y z).map .bl)
      | some false => some (.ok (.bl false) s2)
      | none => none) σ H Q) : tChain r r' (tG C (RD C.X.K) ca) (tG C (RD C.X.K) cb) (tG C (RD C.X.K) cc) σ H Q := by
  obtain ⟨ρ, m, s, hR, hP⟩ := h
  refine ⟨ρ, m, s, hR, (PX.bnd (R := RD C.X.K) hP).mono fun v H1 ⟨x, m1, s1, t1, S1, rx, hP1⟩ => ?_⟩
  refine ⟨ρ, m1, s1, hR.step t1 S1, (PX.bnd (R := RD C.X.K) hP1).mono fun u H2 ⟨y, m2, s2, t2, S2, ry, hP2⟩ => ?_⟩
  have hR2 := (hR.step t1 S1).step t2 S2
  match e : f s2 x y, hP2 with
  | none, hP2 => exact hP2.elim
  | some true, hP2 =>
    refine h1 x y (.bl true) v u m2 s2 H2 σ _ S2 (RD.later t2.later x v rx) ry (by show (f s2 x y).map D.bl = _; rw [e]; rfl) fun m' H' w h3 h4 h5 => ?_
    refine ⟨true, h5, ?_⟩
    rw [if_pos rfl]
    have hP3 := PX.step h3 hP2
    refine ⟨ρ, m', s2, hR2.step h3 h4, (PX.bnd (R := RD C.X.K) hP3).mono fun w' H3 ⟨z, m3, s3, t3, S3, rz, hP4⟩ => ?_⟩
    obtain ⟨d, e1, q⟩ := hP4.pur
    exact h2 y z d u w' m3 s3 H3 σ Q S3 (RD.later t3.later y u (RD.later h3.later y u ry)) rz e1 q
  | some false, hP2 =>
    refine h1 x y (.bl false) v u m2 s2 H2 σ _ S2 (RD.later t2.later x v rx) ry (by show (f s2 x y).map D.bl = _; rw [e]; rfl) fun m' H' w h3 h4 h5 => ?_
    refine ⟨false, h5, ?_⟩
    rw [if_neg Bool.false_ne_true]
    exact hP2 m' H' _ h3 h4 rfl
theorem se_chn {op op' : CmpOp} {r r' : R2} {f g : Sto → D → D → Option Bool} (ho : OpR C.X (compareOp op) r) (ho' : OpR C.X (compareOp op') r') (h1 : BinOk C r fun s x y => (f s x y).map .bl) (h2 : BinOk C r' fun s x y => (g s x y).map .bl)
    (hm : lastMarks [op, op'] [b, c] = false) (ha : SE C a ca) (hb : SE C b cb) (hc : SE C c cc) : SE C (.Compare a [op, op'] [b, c] pos) (fun ρ s => bnd (ca ρ s) fun x s1 => bnd (cb ρ s1) fun y s2 => match f s2 x y with
      | some true => bnd (cc ρ s2) fun z s3 => pur s3 ((g s3 y z).map .bl)
      | some false => some (.ok (.bl false) s2)
      | none => none) := PE.imp (pe_chain ho ho' ha hb hc hm) fun σ H Q h => chain_use h1 h2 h
theorem st_chn {op op' : CmpOp} {r r' : R2} {f g : Sto → D → D → Option Bool} (ho : OpR C.X (compareOp op) r) (ho' : OpR C.X (compareOp op') r') (h1 : BinOk C r fun s x y => (f s x y).map .bl) (h2 : BinOk C r' fun s x y => (g s x y).map .bl)
    (hm : lastMarks [op, op'] [b, c] = false) (ha : SE C a ca) (hb : SE C b cb) (hc : SE C c cc) : ST C (.Compare a [op, op'] [b, c] pos) (fun ρ s => bnd (ca ρ s) fun x s1 => bnd (cb ρ s1) fun y s2 => match f s2 x y with
      | some true => bnd (cc ρ s2) fun z s3 => pur s3 ((g s3 y z).map .bl)
      | some false => some (.ok (.bl false) s2)
      | none => none) := by
  refine PT.imp (pt_chain ho ho' ha hb hc hm) fun σ H Q ⟨ρ, m, s, hR, hP⟩ => ?_
  exact chain_use h1 h2 ⟨ρ, m, s, hR, hP.tst⟩

/-! ### a chain of three comparisons -/
section
variable {X : Cx} {a b c d : Expr} {ta tb tc td : TE} {pos : Pos}
def tChain3 (r r' r'' : R2) (ta tb tc td : TE) : TE := fun σ H Q => ta σ H fun x H1 => tb σ H1 fun y H2 => r x y H2 fun z H3 => ∃ k, z = .bl k ∧
  (if k = true then tc σ H3 fun w' H4 => r' y w' H4 fun z' H5 => ∃ k', z' = .bl k' ∧ (if k' = true then td σ H5 fun u' H6 => r'' w' u' H6 Q else Q (.bl false) H5) else Q (.bl false) H3)
theorem pe_chain3 {op op' op'' : CmpOp} {r r' r'' : R2} (ho : OpR X (compareOp op) r) (ho' : OpR X (compareOp op') r') (ho'' : OpR X (compareOp op'') r'') (ha : PE X a ta) (hb : PE X b tb) (hc : PE X c tc) (hd : PE X d td)
    (hm : lastMarks [op, op', op''] [b, c, d] = false) : PE X (.Compare a [op, op', op''] [b, c, d] pos) (tChain3 r r' r'' ta tb tc td) := by
  refine ⟨fun pins s σ H Q I h => ?_⟩
  refine Compare_chain (thn (ha.run pins s σ H _ I h) fun v s1 ⟨x, H1, I1, r1, q1⟩ => chain_link (thn (hb.run pins s1 σ H1 _ I1 q1) fun u s2 ⟨y, H2, I2, r2, q2⟩ =>
    thn (ho pins s2 σ H2 x y v u _ I2 r1 r2 q2) fun d s3 ⟨z, H3, I3, r3, k, e, q3⟩ => ?_)) hm
  subst e
  cases r3
  refine wpAny_truthy_bool ?_
  cases k with
  | false => exact ite_ff ⟨.bl false, H3, I3, rfl, q3⟩
  | true =>
    refine ite_tt (chain_link (thn (hc.run pins s3 σ H3 _ I3 q3) fun w' s4 ⟨z', H4, I4, r4, q4⟩ => thn (ho' pins s4 σ H4 y z' u w' _ I4 r2 r4 q4) fun d' s5 ⟨z2, H5, I5, r5, k2, e2, q5⟩ => ?_))
    subst e2
    cases r5
    refine wpAny_truthy_bool ?_
    cases k2 with
    | false => exact ite_ff ⟨.bl false, H5, I5, rfl, q5⟩
    | true => exact ite_tt (chain_last (thn (hd.run pins s5 σ H5 _ I5 q5) fun w6 s6 ⟨z6, H6, I6, r6, q6⟩ => ho'' pins s6 σ H6 z' z6 w' w6 Q I6 r4 r6 q6))
theorem pt_chain3 {op op' op'' : CmpOp} {r r' r'' : R2} (ho : OpR X (compareOp op) r) (ho' : OpR X (compareOp op') r') (ho'' : OpR X (compareOp op'') r'') (ha : PE X a ta) (hb : PE X b tb) (hc : PE X c tc) (hd : PE X d td)
    (hm : lastMarks [op, op', op''] [b, c, d] = false) : PT X (.Compare a [op, op', op''] [b, c, d] pos) (tTest (tChain3 r r' r'' ta tb tc td)) := by
  refine ⟨fun pins s σ H Q I h => ?_⟩
  refine isTrue_chain (thn (ha.run pins s σ H _ I h) fun v s1 ⟨x, H1, I1, r1, q1⟩ => test_link (thn (hb.run pins s1 σ H1 _ I1 q1) fun u s2 ⟨y, H2, I2, r2, q2⟩ =>
    thn (ho pins s2 σ H2 x y v u _ I2 r1 r2 q2) fun d s3 ⟨z, H3, I3, r3, k, e, q3⟩ => ?_)) hm
  subst e
  cases r3
  refine wpAny_truthy_bool ?_
  cases k with
  | false =>
    obtain ⟨k', e', q'⟩ := q3
    cases e'
    exact ite_ff ⟨H3, I3, q'⟩
  | true =>
    refine ite_tt (test_link (thn (hc.run pins s3 σ H3 _ I3 q3) fun w' s4 ⟨z', H4, I4, r4, q4⟩ => thn (ho' pins s4 σ H4 y z' u w' _ I4 r2 r4 q4) fun d' s5 ⟨z2, H5, I5, r5, k2, e2, q5⟩ => ?_))
    subst e2
    cases r5
    refine wpAny_truthy_bool ?_
    cases k2 with
    | false =>
      obtain ⟨k', e', q'⟩ := q5
      cases e'
      exact ite_ff ⟨H5, I5, q'⟩
    | true =>
      refine ite_tt (test_last (thn (hd.run pins s5 σ H5 _ I5 q5) fun w6 s6 ⟨z6, H6, I6, r6, q6⟩ => thn (ho'' pins s6 σ H6 z' z6 w' w6 _ I6 r4 r6 q6) fun d7 s7 ⟨z7, H7, I7, r7, k7, e7, q7⟩ => ?_))
      subst e7
      cases r7
      exact wpAny_truthy_bool ⟨H7, I7, q7⟩
end
theorem chain3_use {cd : Env → Sto → Option (Out D)} {r r' r'' : R2} {f g h' : Sto → D → D → Option Bool} {Q : VK} (h1 : BinOk C r fun s x y => (f s x y).map .bl) (h2 : BinOk C r' fun s x y => (g s x y).map .bl) (h3 : BinOk C r'' fun s x y => (h' s x y).map .bl)
    (h : tG C (RD C.X.K) (fun ρ s => bnd (ca ρ s) fun x s1 => bnd (cb ρ s1) fun y s2 => match f s2 x y with
      | some true => bnd (cc ρ s2) fun z s3 => match g s3 y z with
        | some true => bnd (cd ρ s3) fun w s4 => pur s4 ((h' s4 z w).map .bl)
        | some false => some (.ok (.bl false) s3)
        | none => none
      | some false => some (.ok (.bl false) s2)
      | none => none) σ H Q) : tChain3 r r' r'' (tG C (RD C.X.K) ca) (tG C (RD C.X.K) cb) (tG C (RD C.X.K) cc) (tG C (RD C.X.K) cd) σ H Q := by
  obtain ⟨ρ, m, s, hR, hP⟩ := h
  refine ⟨ρ, m, s, hR, (PX.bnd (R := RD C.X.K) hP).mono fun v H1 ⟨x, m1, s1, t1, S1, rx, hP1⟩ => ?_⟩
  refine ⟨ρ, m1, s1, hR.step t1 S1, (PX.bnd (R := RD C.X.K) hP1).mono fun u H2 ⟨y, m2, s2, t2, S2, ry, hP2⟩ => ?_⟩
  have hR2 := (hR.step t1 S1).step t2 S2
  match e : f s2 x y, hP2 with
  | none, hP2 => exact hP2.elim
  | some true, hP2 =>
    refine h1 x y (.bl true) v u m2 s2 H2 σ _ S2 (RD.later t2.later x v rx) ry (by show (f s2 x y).map D.bl = _; rw [e]; rfl) fun m' H' w h3' h4 h5 => ?_
    refine ⟨true, h5, ?_⟩
    rw [if_pos rfl]
    have hP3 := PX.step h3' hP2
    have hR3 := hR2.step h3' h4
    refine ⟨ρ, m', s2, hR3, (PX.bnd (R := RD C.X.K) hP3).mono fun w' H3 ⟨z, m3, s3, t3, S3, rz, hP4⟩ => ?_⟩
    have hR4 := hR3.step t3 S3
    match e2 : g s3 y z, hP4 with
    | none, hP4 => exact hP4.elim
    | some true, hP4 =>
      refine h2 y z (.bl true) u w' m3 s3 H3 σ _ S3 (RD.later t3.later y u (RD.later h3'.later y u ry)) rz (by show (g s3 y z).map D.bl = _; rw [e2]; rfl) fun m5 H5 w5 k3 k4 k5 => ?_
      refine ⟨true, k5, ?_⟩
      rw [if_pos rfl]
      have hP5 := PX.step k3 hP4
      refine ⟨ρ, m5, s3, hR4.step k3 k4, (PX.bnd (R := RD C.X.K) hP5).mono fun u' H6 ⟨z6, m6, s6, t6, S6, rz6, hP6⟩ => ?_⟩
      obtain ⟨d, e1, q⟩ := hP6.pur
      exact h3 z z6 d w' u' m6 s6 H6 σ Q S6 (RD.later t6.later z w' (RD.later k3.later z w' rz)) rz6 e1 q
    | some false, hP4 =>
      refine h2 y z (.bl false) u w' m3 s3 H3 σ _ S3 (RD.later t3.later y u (RD.later h3'.later y u ry)) rz (by show (g s3 y z).map D.bl = _; rw [e2]; rfl) fun m5 H5 w5 k3 k4 k5 => ?_
      refine ⟨false, k5, ?_⟩
      rw [if_neg Bool.false_ne_true]
      exact hP4 m5 H5 _ k3 k4 rfl
  | some false, hP2 =>
    refine h1 x y (.bl false) v u m2 s2 H2 σ _ S2 (RD.later t2.later x v rx) ry (by show (f s2 x y).map D.bl = _; rw [e]; rfl) fun m' H' w h3 h4 h5 => ?_
    refine ⟨false, h5, ?_⟩
    rw [if_neg Bool.false_ne_true]
    exact hP2 m' H' _ h3 h4 rfl
abbrev cChn3 (f g h' : Sto → D → D → Option Bool) (ca cb cc cd : Env → Sto → Option (Out D)) : Env → Sto → Option (Out D) := fun ρ s => bnd (ca ρ s) fun x s1 => bnd (cb ρ s1) fun y s2 => match f s2 x y with
      | some true => bnd (cc ρ s2) fun z s3 => match g s3 y z with
        | some true => bnd (cd ρ s3) fun w s4 => pur s4 ((h' s4 z w).map .bl)
        | some false => some (.ok (.bl false) s3)
        | none => none
      | some false => some (.ok (.bl false) s2)
      | none => none
theorem se_chn3 {op op' op'' : CmpOp} {r r' r'' : R2} {f g h' : Sto → D → D → Option Bool} {d : Expr} {cd : Env → Sto → Option (Out D)} (ho : OpR C.X (compareOp op) r) (ho' : OpR C.X (compareOp op') r') (ho'' : OpR C.X (compareOp op'') r'') (h1 : BinOk C r fun s x y => (f s x y).map .bl) (h2 : BinOk C r' fun s x y => (g s x y).map .bl)
    (h3 : BinOk C r'' fun s x y => (h' s x y).map .bl) (hm : lastMarks [op, op', op''] [b, c, d] = false) (ha : SE C a ca) (hb : SE C b cb) (hc : SE C c cc) (hd : SE C d cd) : SE C (.Compare a [op, op', op''] [b, c, d] pos) (cChn3 f g h' ca cb cc cd) := PE.imp (pe_chain3 ho ho' ho'' ha hb hc hd hm) fun σ H Q h => chain3_use h1 h2 h3 h
theorem st_chn3 {op op' op'' : CmpOp} {r r' r'' : R2} {f g h' : Sto → D → D → Option Bool} {d : Expr} {cd : Env → Sto → Option (Out D)} (ho : OpR C.X (compareOp op) r) (ho' : OpR C.X (compareOp op') r') (ho'' : OpR C.X (compareOp op'') r'') (h1 : BinOk C r fun s x y => (f s x y).map .bl) (h2 : BinOk C r' fun s x y => (g s x y).map .bl)
    (h3 : BinOk C r'' fun s x y => (h' s x y).map .bl) (hm : lastMarks [op, op', op''] [b, c, d] = false) (ha : SE C a ca) (hb : SE C b cb) (hc : SE C c cc) (hd : SE C d cd) : ST C (.Compare a [op, op', op''] [b, c, d] pos) (cChn3 f g h' ca cb cc cd) := by
  refine PT.imp (pt_chain3 ho ho' ho'' ha hb hc hd hm) fun σ H Q ⟨ρ, m, s, hR, hP⟩ => ?_
  exact chain3_use h1 h2 h3 ⟨ρ, m, s, hR, hP.tst⟩
/-! ### len(set(x)) -/
theorem firstMet_dedI (ns : List Int) : PyProof.Rows.firstMet (fun i => ns.getD i 0) ns.length = dedI ns := by
  unfold PyProof.Rows.firstMet dedI
  congr 1
  refine List.ext_getElem (by simp) fun i h1 h2 => ?_
  simp [List.getElem?_eq_getElem h2]
def tLenSet2 (K : PySem.W.Frag) (ta : TE) : TE := fun σ H Q => ta σ H fun x H1 => ∃ (l : Addr) (ns : List Int), x = .ref l ∧ SqL K H1 l (ns.map V.int) ∧ ns.length ≤ 4000 ∧ Q (.int ((dedI ns).length : Nat)) H1
theorem pe_lenSet2 {X : Cx} {a : Expr} {ta : TE} {p p2 q pos : Pos} (hg : Gl X "len") (hm : X.mg "len" = none) (hg2 : Gl X "set") (hm2 : X.mg "set" = none) (ha : PE X a ta) (hc : X.calm = true)
    (na : starEach [a] X.env = (false, eval a X.env) :: starEach [] X.env) : PE X (.Call (.Name "len" p) [.Call (.Name "set" p2) [a] [] q] [] pos) (tLenSet2 X.K ta) := by
  refine ⟨fun pins s σ H Q I h => ?_⟩
  refine Call_ (ld_blt I hg hm boot_len ?_)
  refine PyProof.Rows.callWith_builtin1 (PyProof.Rows.args_cons ?_ rfl) rfl rfl
  refine Call_ (ld_blt I hg2 hm2 boot_set ?_)
  refine PyProof.Rows.callWith_type1 (PyProof.Rows.args_cons (thn (ha.run pins s σ H _ I h) fun v s1 ⟨x, H1, I1, r1, q1⟩ => PyProof.Rows.args_nil ?_) na) na rfl
  obtain ⟨l, ns, rfl, hq, hl, q1⟩ := q1
  cases r1
  obtain ⟨its, r, pl, hz⟩ := I1.list hq
  have hlen : its.toArray.size = ns.length := by rw [List.size_toArray, ← r.length, List.length_map]
  refine call_set_list (I1.ok.hd hc) pl.isList (by simpa using RZ.intsAre_vals r) (by rw [hlen]; unfold scanBound; omega) fun h' tk hS hk => ?_
  refine PyProof.Rows.args_nil ?_
  rw [hlen, firstMet_dedI] at hS
  have hle : (dedI ns).length ≤ ns.length := by rw [← firstMet_dedI]; exact PyProof.Rows.firstMet_length_le _ _
  obtain ⟨o, es, ep, t, ho, hex, hd, _, _, _, hf, hn⟩ := hS
  have I2 : Inv X pins σ H1 { s1 with heap := h', toks := tk } := I1.kept fun b o e => hk b o (Heap.lt_size e) e
  exact call_len_set ho hex hd hf (by rw [hn] <;> omega) ⟨.int (dedI ns).length, H1, I2.tok _, ⟨_, by rw [hn]⟩, q1⟩
/-! ### and, or, if -/
abbrev cAnd (ca cb : Env → Sto → Option (Out D)) : Env → Sto → Option (Out D) := fun ρ s => bnd (ca ρ s) fun x s1 => match x with
  | .bl true => cb ρ s1
  | .bl false => some (.ok (.bl false) s1)
  | _ => none
abbrev cOr (ca cb : Env → Sto → Option (Out D)) : Env → Sto → Option (Out D) := fun ρ s => bnd (ca ρ s) fun x s1 => match x with
  | .bl true => some (.ok (.bl true) s1)
  | .bl false => cb ρ s1
  | _ => none
theorem and_use {Q : VK} (h : tG C (RD C.X.K) (cAnd ca cb) σ H Q) : tAndV (tG C (RD C.X.K) ca) (tG C (RD C.X.K) cb) σ H Q := by
  obtain ⟨ρ, m, s, hR, hP⟩ := h
  refine ⟨ρ, m, s, hR, (PX.bnd (R := RD C.X.K) hP).mono fun v H1 ⟨x, m1, s1, t1, S1, rx, hP1⟩ => ?_⟩
  cases x with
  | bl k =>
    refine ⟨k, rx, ?_⟩
    cases k with
    | true =>
      rw [if_pos rfl]
      exact ⟨ρ, m1, s1, hR.step t1 S1, hP1⟩
    | false =>
      rw [if_neg Bool.false_ne_true]
      exact hP1.here S1 rfl
  | _ => exact (show False from hP1).elim
theorem or_use {Q : VK} (h : tG C (RD C.X.K) (cOr ca cb) σ H Q) : tOrV (tG C (RD C.X.K) ca) (tG C (RD C.X.K) cb) σ H Q := by
  obtain ⟨ρ, m, s, hR, hP⟩ := h
  refine ⟨ρ, m, s, hR, (PX.bnd (R := RD C.X.K) hP).mono fun v H1 ⟨x, m1, s1, t1, S1, rx, hP1⟩ => ?_⟩
  cases x with
  | bl k =>
    refine ⟨k, rx, ?_⟩
    cases k with
    | true =>
      rw [if_pos rfl]
      exact hP1.here S1 rfl
    | false =>
      rw [if_neg Bool.false_ne_true]
      exact ⟨ρ, m1, s1, hR.step t1 S1, hP1⟩
  | _ => exact (show False from hP1).elim
theorem tst_and {o : Option (Out D)} {k : Sto → Option (Out D)} : tst (bnd o fun x s1 => match x with
  | .bl true => k s1
  | .bl false => some (.ok (.bl false) s1)
  | _ => none) = bnd (tst o) fun b s1 => if b = true then tst (k s1) else some (.ok false s1) := by
  match o with
  | none => rfl
  | some (.exc k s) => rfl
  | some (.ok d s) =>
    cases d with
    | bl b => cases b <;> rfl
    | _ => rfl
theorem tst_or {o : Option (Out D)} {k : Sto → Option (Out D)} : tst (bnd o fun x s1 => match x with
  | .bl true => some (.ok (.bl true) s1)
  | .bl false => k s1
  | _ => none) = bnd (tst o) fun b s1 => if b = true then some (.ok true s1) else tst (k s1) := by
  match o with
  | none => rfl
  | some (.exc k s) => rfl
  | some (.ok d s) =>
    cases d with
    | bl b => cases b <;> rfl
    | _ => rfl
theorem andt_use {Q : Bool → Hp → Prop} (h : tG C RB (fun ρ s => tst (cAnd ca cb ρ s)) σ H Q) : tAnd (tG C RB fun ρ s => tst (ca ρ s)) (tG C RB fun ρ s => tst (cb ρ s)) σ H Q := by
  obtain ⟨ρ, m, s, hR, hP⟩ := h
  have hP : P C RB σ m s H (tst (cAnd ca cb ρ s)) Q := hP
  unfold cAnd at hP
  rw [tst_and] at hP
  refine ⟨ρ, m, s, hR, (PX.bnd (R := RB) hP).mono fun v H1 ⟨x, m1, s1, t1, S1, rx, hP1⟩ => ?_⟩
  have rx : x = v := rx
  subst rx
  cases x with
  | true =>
    rw [if_pos rfl] at hP1 ⊢
    exact ⟨ρ, m1, s1, hR.step t1 S1, hP1⟩
  | false =>
    rw [if_neg Bool.false_ne_true] at hP1 ⊢
    exact hP1.here S1 rfl
theorem ort_use {Q : Bool → Hp → Prop} (h : tG C RB (fun ρ s => tst (cOr ca cb ρ s)) σ H Q) : tOr (tG C RB fun ρ s => tst (ca ρ s)) (tG C RB fun ρ s => tst (cb ρ s)) σ H Q := by
  obtain ⟨ρ, m, s, hR, hP⟩ := h
  have hP : P C RB σ m s H (tst (cOr ca cb ρ s)) Q := hP
  unfold cOr at hP
  rw [tst_or] at hP
  refine ⟨ρ, m, s, hR, (PX.bnd (R := RB) hP).mono fun v H1 ⟨x, m1, s1, t1, S1, rx, hP1⟩ => ?_⟩
  have rx : x = v := rx
  subst rx
  cases x with
  | true =>
    rw [if_pos rfl] at hP1 ⊢
    exact hP1.here S1 rfl
  | false =>
    rw [if_neg Bool.false_ne_true] at hP1 ⊢
    exact ⟨ρ, m1, s1, hR.step t1 S1, hP1⟩
theorem se_and {rest : List Expr} (ha : SE C a ca) (hb : SE C (.BoolOp .And (b :: rest) pos) cb) : SE C (.BoolOp .And (a :: b :: rest) pos) (cAnd ca cb) := PE.imp (pe_and ha hb) fun σ H Q h => and_use h
theorem se_or {rest : List Expr} (ha : SE C a ca) (hb : SE C (.BoolOp .Or (b :: rest) pos) cb) : SE C (.BoolOp .Or (a :: b :: rest) pos) (cOr ca cb) := PE.imp (pe_or ha hb) fun σ H Q h => or_use h
theorem sw_and {rest : List Expr} (ha : ST C a ca) (hb : SW C (.BoolOp .And (b :: rest) pos) cb) : SW C (.BoolOp .And (a :: b :: rest) pos) (cAnd ca cb) := PW.imp (pw_and ha hb) fun σ H Q h => andt_use h
theorem sw_or {rest : List Expr} (ha : ST C a ca) (hb : SW C (.BoolOp .Or (b :: rest) pos) cb) : SW C (.BoolOp .Or (a :: b :: rest) pos) (cOr ca cb) := PW.imp (pw_or ha hb) fun σ H Q h => ort_use h
theorem se_ite (hc : ST C c cc) (ha : SE C a ca) (hb : SE C b cb) : SE C (.IfExp c a b pos) (fun ρ s => bnd (cc ρ s) fun x s1 => match x with
    | .bl true => ca ρ s1
    | .bl false => cb ρ s1
    | _ => none) := by
  refine PE.imp (pe_ifExp hc ha hb) fun σ H Q ⟨ρ, m, s, hR, hP⟩ => ?_
  dsimp only at hP
  rw [bnd_tst] at hP
  refine ⟨ρ, m, s, hR, (PX.bnd (R := RB) hP).mono fun v H1 ⟨x, m1, s1, t1, S1, rx, hP1⟩ => ?_⟩
  have rx : x = v := rx
  subst rx
  cases x with
  | true =>
    rw [if_pos rfl] at hP1 ⊢
    exact ⟨ρ, m1, s1, hR.step t1 S1, hP1⟩
  | false =>
    rw [if_neg Bool.false_ne_true] at hP1 ⊢
    exact ⟨ρ, m1, s1, hR.step t1 S1, hP1⟩

/-! ### displays, argument lists -/
variable {es : List Expr} {cs : Env → Sto → Option (Out (List D))}
def isStar : Expr → Bool
  | .Starred .. => true
  | _ => false
theorem starEach_cons {e : Expr} {r : List Expr} {env : PySem.Env} (h : isStar e = false) : starEach (e :: r) env = (false, eval e env) :: starEach r env := by
  cases e <;> first | rfl | cases h
theorem noStar_any {pos : Pos} {env : PySem.Env} : ∀ {r : List Expr}, r.any isStar = false → (backTo pos (starEach r env)).any (·.1) = false
  | [], _ => rfl
  | e :: r, h => by
    rw [List.any_cons, Bool.or_eq_false_iff] at h
    rw [starEach_cons h.1]
    show (false || (backTo pos (starEach r env)).any (·.1)) = false
    rw [noStar_any h.2]
    rfl
theorem sa_nil : SA C [] (fun _ s => some (.ok [] s)) := PA.imp pa_nil fun σ H Q ⟨ρ, m, s, hR, hP⟩ => hP.here hR.sr rfl
theorem sa_cons (hs : isStar a = false) (ha : SE C a ca) (hb : SA C es cs) : SA C (a :: es) (fun ρ s => bnd (ca ρ s) fun x s1 => bnd (cs ρ s1) fun xs s2 => some (.ok (x :: xs) s2)) := by
  refine PA.imp (pa_cons ha hb (starEach_cons hs)) fun σ H Q ⟨ρ, m, s, hR, hP⟩ => ?_
  refine ⟨ρ, m, s, hR, (PX.bnd (R := RD C.X.K) hP).mono fun v H1 ⟨x, m1, s1, t1, S1, rx, hP1⟩ => ?_⟩
  refine ⟨ρ, m1, s1, hR.step t1 S1, (PX.bnd (R := RDs C.X.K) hP1).mono fun vs H2 ⟨xs, m2, s2, t2, S2, rxs, hP2⟩ => ?_⟩
  exact hP2.here S2 ⟨v, vs, rfl, RD.later t2.later x v rx, rxs⟩
theorem se_tup {k : Nat} (h : SA C es cs) : SE C (.Tuple es k pos) (fun ρ s => bnd (cs ρ s) fun xs s1 => if xs.length ≤ sizeLine then some (.ok (.tup xs) s1) else none) := by
  refine PE.imp (pe_tup h) fun σ H Q h => ?_
  obtain ⟨ρ, m, s, hR, hP⟩ := args h
  refine ⟨ρ, m, s, hR, hP.mono fun vs H1 ⟨xs, m1, s1, S, rx, q⟩ => ?_⟩
  split at q
  · rename_i hz
    exact ⟨by rw [← rx.length]; exact hz, fun p hp => q.fresh S hp ⟨p, vs, rfl, SqT.of upd_same, RDs.later (.new hp) _ _ rx⟩⟩
  · exact q.elim
theorem SRel.addCell {p : Addr} {cc : Cell} {oo : HO} (S : SRel K m s H) (hp : H p = none) (r : CellR K (m.add p) (upd H p oo) p cc) : SRel K (m.add p) (s ++ [cc]) (upd H p oo) := by
  have l : Later m H (m.add p) (upd H p oo) := Later.add hp (Later.new hp)
  have hn : p ∉ m.a := fun z => S.no hp (.inl z)
  refine ⟨by show (m.a ++ [p]).length = _; rw [List.length_append, List.length_append, S.len]; rfl, ?_, fun k c h => ?_, fun z hz => ?_, S.tab.ext fun a o h => by rw [upd_ne (ne_of_none h hp)]; exact h⟩
  · show (m.a ++ [p]).Nodup
    rw [List.nodup_append]
    refine ⟨S.nd, by simp, fun a ha b hb e => ?_⟩
    have : b = p := by simpa using hb
    subst this
    subst e
    exact hn ha
  · by_cases hk : k < s.length
    · rw [List.getElem?_append_left hk] at h
      obtain ⟨a, h1, h2⟩ := S.cell k c h
      refine ⟨a, l.at h1, h2.later l ?_⟩
      obtain ⟨o, q, _⟩ := S.held (List.mem_of_getElem? h1)
      rw [upd_ne (ne_of_none q hp)]
    · have e : k = s.length := by
        have := (List.getElem?_eq_some_iff.mp h).1
        rw [List.length_append] at this
        simp at this
        omega
      subst e
      rw [List.getElem?_concat_length] at h
      cases h
      exact ⟨p, by show (m.a ++ [p])[_]? = _; rw [← S.len, List.getElem?_concat_length], r⟩
  · obtain ⟨h1, o, h2⟩ := S.hid z hz
    refine ⟨fun q => ?_, o, by rw [upd_ne (ne_of_none h2 hp)]; exact h2⟩
    rcases List.mem_append.mp q with q | q
    · exact h1 q
    · rw [List.mem_singleton.mp q, hp] at h2
      cases h2
theorem SRel.addNew {p : Addr} {xs : List D} {vs : List V} (S : SRel K m s H) (hp : H p = none) (r : RDs K m H xs vs) : SRel K (m.add p) (s ++ [.lst xs]) (upd H p (.lst vs)) :=
  S.addCell hp ⟨vs, upd_same, RDs.later (Later.add hp (Later.new hp)) _ _ r⟩
theorem Step.addNew {p : Addr} {c : Cell} {o : HO} (hp : H p = none) (hL : L ≤ s.length) : Step L m s H (m.add p) (s ++ [c]) (upd H p o) := by
  refine ⟨Later.add hp (Later.new hp), by rw [List.length_append]; omega, fun n hn c' h => ?_⟩
  rw [List.getElem?_append_left (by omega)] at h
  exact ⟨c', h, fun d hd => .inr hd⟩
theorem se_lst {mm : Bool} (h : SA C es cs) : SE C (.List es pos) (fun ρ s => bnd (cs ρ s) fun xs s1 => fresh mm xs s1) := by
  refine PE.imp (pe_lst h) fun σ H Q ⟨ρ, m, s, hR, hP⟩ => ?_
  refine ⟨ρ, m, s, hR, (PX.bnd (R := RDs C.X.K) hP).mono fun vs H1 ⟨xs, m1, s1, t1, S, rx, q⟩ => ?_⟩
  have hL : C.L ≤ s1.length := Nat.le_trans hR.base t1.slen
  unfold fresh at q
  split at q
  · rename_i hz
    refine ⟨by rw [← rx.length]; exact hz, fun p hp => ?_⟩
    cases mm with
    | false => exact q.fresh S hp ⟨p, vs, rfl, S.no hp, upd_same, RDs.later (.new hp) _ _ rx⟩
    | true =>
      refine q (m1.add p) _ _ (Step.addNew hp hL) (S.addNew hp rx) ⟨p, rfl, ?_⟩
      show (m1.a ++ [p])[_]? = _
      rw [← S.len, List.getElem?_concat_length]
  · exact (show False from q).elim
theorem se_dnew : SE C (.Dict [] [] pos) (fun _ s => some (.ok (.loc s.length) (s ++ [.dct []]))) := by
  refine PE.imp pe_dnewK fun σ H Q ⟨ρ, m, s, hR, hP⟩ p hp => ?_
  refine hP (m.add p) _ _ (Step.addNew hp hR.base) (hR.sr.addCell hp ⟨[], upd_same, rfl⟩) ⟨p, rfl, ?_⟩
  show (m.a ++ [p])[_]? = _
  rw [← hR.sr.len, List.getElem?_concat_length]
end
end EV

namespace HT
open PySem PySem.Spec PyProof.Rows
section
variable {prog : Program} {w : World} {A : Around} {E : Value → Shared → Prop} {s : Shared}
theorem adjust_rev (n : Nat) : Builtin.Slice.sliceAdjust none none (-1) (n : Int) = ((n : Int) - 1, -1) := by
  unfold Builtin.Slice.sliceAdjust
  simp
theorem places_rev (n : Nat) : Builtin.Slice.slicePlaces ((n : Int) - 1) (-1) (-1) = n := by
  unfold Builtin.Slice.slicePlaces
  simp
  omega
theorem sliceApplied_rev {sl : Addr} {vs : Value} {n : Nat} {Q : Int × Int × Nat → Shared → Prop} (hs : s.heap.IsSliceOf sl .none .none vs) (ps : IsPart vs (some (-1)))
    (h : Q ((n : Int) - 1, -1, n) s) : wpAny (model prog w) A (Builtin.Slice.sliceApplied (.ref sl) (pure (n : Int))) Q E s := by
  obtain ⟨os, hos, hcs, hds⟩ := id hs
  unfold Builtin.Slice.sliceApplied Builtin.Slice.sliceFields
  refine wpAny_bind (wpAny_bind (wpAny_field hos hds (x := .none) rfl (wpAny_bind (wpAny_field hos hds (x := .none) rfl (wpAny_bind (wpAny_field hos hds (x := vs) rfl (wpAny_pure ?_)))))))
  refine wpAny_bind (slicePart_ ps ?_)
  show wpAny _ _ (if ((-1 : Int) == 0) = true then _ else _) _ _ s
  rw [if_neg (by decide)]
  refine wpAny_bind (slicePart_none (wpAny_bind (slicePart_none (wpAny_bind (wpAny_pure ?_)))))
  show wpAny _ _ (match Builtin.Slice.sliceAdjust none none (-1) (n : Int) with | (lo, hi) => pure (lo, (-1 : Int), Builtin.Slice.slicePlaces lo hi (-1))) _ _ s
  rw [adjust_rev n]
  show wpAny _ _ (pure ((n : Int) - 1, (-1 : Int), Builtin.Slice.slicePlaces ((n : Int) - 1) (-1) (-1))) _ _ s
  rw [places_rev]
  exact wpAny_pure h
theorem fm_map {α β : Type} {f : α → Option β} {g : α → β} : ∀ {l : List α}, (∀ x ∈ l, f x = some (g x)) → l.filterMap f = l.map g
  | [], _ => rfl
  | x :: l, h => by
    rw [List.filterMap_cons, h x (List.mem_cons_self ..), List.map_cons, fm_map fun y hy => h y (List.mem_cons_of_mem _ hy)]
theorem pick_rev (xs : Array Value) : ((List.range xs.size).filterMap fun (m : Nat) => xs[(((xs.size : Int) - 1) + (m : Int) * -1).toNat]?).toArray = xs.toList.reverse.toArray := by
  congr 1
  rw [fm_map (g := fun m => xs.toList.getD (xs.size - 1 - m) .none) fun m hm => ?_]
  · refine List.ext_getElem (by simp) fun i h1 h2 => ?_
    have hi : i < xs.size := by simpa using h1
    have hl : xs.size - 1 - i < xs.size := by omega
    simp [List.getElem_reverse, hl]
  · rw [List.mem_range] at hm
    have e1 : (((xs.size : Int) - 1) + (m : Int) * -1).toNat = xs.size - 1 - m := by omega
    have hlt : xs.size - 1 - m < xs.size := by omega
    rw [e1]
    simp [hlt]
theorem getItem_tuple_rev {t sl : Addr} {items : Array Value} {vs : Value} {Q : Value → Shared → Prop} (ht : IsTup s.heap t items) (hs : s.heap.IsSliceOf sl .none .none vs) (ps : IsPart vs (some (-1)))
    (h : Q (.ref s.heap.objs.size) { s with heap := s.heap.push { cls := .type "tuple", data := .seq items.toList.reverse.toArray } })
    (hsz : items.size ≤ sizeLine) : wpAny (model prog w) A (getItem (.ref t) (.ref sl)) Q E s := by
  have htake : sizeOk (.seq items.toList.reverse.toArray) := by
    show items.toList.reverse.toArray.size ≤ sizeLine
    rw [List.size_toArray, List.length_reverse, Array.length_toList]
    exact hsz
  obtain ⟨os, hos, hcs, hds⟩ := id hs
  have hTs : s.TypeIs (.ref sl) "slice" := ⟨os, hos, hcs⟩
  unfold getItem
  try with_reducible refine wpAny_holding ?_
  first | refine wpAny_bind (wpAny_pure ?_) | skip
  refine wpAny_bind (wpAny_sequenceKey ht.typeIs (by decide) ?_)
  refine wpAny_bind (wpAny_callSpecial?_slot (name := Str.ofString "__getitem__") ht.typeIs PyProof.Rows.slot_tuple_getitem
    (wpAny_call_entry PyProof.Rows.slot_tuple_getitem ht.typeIs entry_tuple_getitem ?_ (args_tuple_getitem _ _)))
  show wpAny _ _ (Builtin.Tuple.tupleItemsOf (.ref t) >>= _) _ _ s
  refine wpAny_bind (tupleItemsOf_ ht ?_)
  refine wpAny_bind (wpAny_typeOf hTs ?_)
  rw [if_pos (by decide)]
  refine wpAny_bind (sliceApplied_rev hs ps ?_)
  have hno : ¬ ((((items.size : Int) - 1) == 0 && (-1 : Int) == 1 && items.size == items.size) = true) := by
    intro q
    rw [Bool.and_eq_true, Bool.and_eq_true] at q
    exact absurd (eq_of_beq q.1.2) (by decide)
  show wpAny _ _ (if (((items.size : Int) - 1) == 0 && (-1 : Int) == 1 && items.size == items.size) = true then _ else _) _ _ s
  rw [if_neg hno, pick_rev]
  first
    | exact wpAny_bind (m := Builtin.Tuple.tupleExact _) (wpAny_newObj_type (wpAny_pure ⟨_, rfl, wpAny_pure h⟩) htake)
    | exact wpAny_bind (m := Builtin.Tuple.tupleExact _) (wpAny_newObj_type (wpAny_bind (wpAny_pure (wpAny_pure ⟨_, rfl, wpAny_pure h⟩))) htake)
    | exact wpAny_bind (wpAny_bind (m := Builtin.Tuple.tupleExact _) (wpAny_newObj_type (wpAny_pure (wpAny_pure ⟨_, rfl, wpAny_pure h⟩)) htake))
    | exact wpAny_bind (wpAny_bind (m := Builtin.Tuple.tupleExact _) (wpAny_newObj_type (wpAny_pure ⟨_, rfl, wpAny_pure h⟩) htake))
end
end HT
namespace L2
open PySem PySem.Spec PyProof.Rows
section
variable {X : Cx}
def tRevT (K : PySem.W.Frag) (te : TE) : TE := fun σ H Q => te σ H fun x H1 => ∃ a xs, x = .ref a ∧ SqT K H1 a xs ∧ ∀ p, H1 p = none → Q (.ref p) (upd H1 p (.tup xs.reverse))
theorem pe_revT {e : Expr} {te : TE} {k : Nat} {p1 p2 p3 pos : Pos} (he : PE X e te) : PE X (.Subscript e (.Slice none none (some (.UnaryOp .USub (.Constant (.int 1) k p1) p2)) p3) pos) (tRevT X.K te) := by
  refine ⟨fun pins s σ H Q I h => ?_⟩
  refine Subscript_ (thn (he.run pins s σ H _ I h) fun v s1 ⟨x, H1, I1, r1, q1⟩ => ?_)
  obtain ⟨a, xs, ex, hx, q⟩ := q1
  subst ex
  cases r1
  have hst : PO X (some (.UnaryOp .USub (.Constant (.int 1) k p1) p2)) (tPart (tUn (rU fun i => .int (-i)) (tC (.int 1)))) := po_some (pe_un un_neg pe_int)
  refine wpAny_Slice (thn (po_none.run pins s1 σ H1 (fun o H2 => o = none ∧ H2 = H1) I1 ⟨rfl, rfl⟩) fun vl s2 ⟨l, H2, I2, pl, el, e2⟩ => ?_)
  subst el e2
  refine thn (po_none.run pins s2 σ H2 (fun o H3 => o = none ∧ H3 = H2) I2 ⟨rfl, rfl⟩) fun vu s3 ⟨u, H3, I3, pu, eu, e3⟩ => ?_
  subst eu e3
  refine thn (hst.run pins s3 σ H3 (fun o H4 => o = some (-1) ∧ H4 = H3) I3 ⟨1, rfl, -1, rfl, rfl, rfl⟩) fun vs s4 ⟨o, H4, I4, ps, eo, e4⟩ => ?_
  subst eo e4
  have I5 : Inv X pins σ H4 { s4 with heap := s4.heap.push { cls := .type "slice", data := .fields #[vl, vu, vs] } } := I4.kept (t' := s4.toks) fun b ob q => Heap.get?_push_of_some _ q
  obtain ⟨its, r, ht, hz⟩ := I5.tuple hx
  have hlen := r.length
  cases pl
  cases pu
  show wpAny (model X.prog X.w) X.A (subscriptTail e (.Slice none none (some (.UnaryOp .USub (.Constant (.int 1) k p1) p2)) p3) (.ref a) (.ref s4.heap.objs.size)) (EP X pins σ Q) X.xe { s4 with heap := s4.heap.push { cls := .type "slice", data := .fields #[.none, .none, vs] } }
  refine tail_any (ops := [.ref a, .ref s4.heap.objs.size]) ht.typeIs (PyProof.Rows.slot_tuple_getitem.lookup) ?_ (by with_unfolding_all rfl)
  refine HT.getItem_tuple_rev ht (Heap.IsSliceOf.new _ .none .none vs) ps ?_ (by rw [List.size_toArray]; omega)
  refine ⟨.ref _, _, I5.laid (t' := s4.toks) (o := .tup xs.reverse) (fun b ob q => Heap.get?_push_of_some _ q) (Nat.le_refl _) ?_, rfl, q _ (I5.hok.fresh (Nat.le_refl _))⟩
  exact ⟨by rw [List.length_reverse]; exact hz, _, r.reverse, ⟨_, Heap.get?_push_size _ rfl, rfl, _, rfl⟩⟩
end
end L2

set_option maxHeartbeats 4000000
/-! sorted(set(x)) of a list of ints -/
namespace L2
open PySem PySem.Spec PyProof.Rows
section
variable {P : Program} {w : World} {A : Around} {E : Value → Shared → Prop} {s : Shared}
theorem adr1 {a n : Nat} (h : a < n) : a ≠ n + 1 := by omega
theorem adr2 {a n : Nat} (h : a < n) : ¬ n = n + 1 ∧ ¬ n = a := by omega
theorem adr3 {a n : Nat} (h : a < n) : ¬ a = n ∧ ¬ a = n + 1 := by omega
/-- an empty set, as it is made -/
abbrev set0 (w : World) : Obj := { cls := .type "set", dict := none, data := .set #[] 0 (.fresh 0 0 (!w.params.followText "set-order")) }
abbrev with0 (w : World) (s : Shared) : Shared := { s with heap := s.heap.push (set0 w) }
theorem set_of_list {l : Addr} {vs : Array Value} (zs : List Int) {Q : Value → Shared → Prop} (hnd : A.handled = none) (hls : s.heap.IsList l vs) (ii : IntsAre vs.toList zs) (room : zs.length + 1 < scanBound)
    (fin : ∀ (h' : Heap) (tk c : Nat), SetR w h' s.heap.objs.size (fun j => decide (j ∈ zs)) c → c ≤ zs.length → (∀ b o, s.heap.get? b = some o → h'.get? b = some o) → Q (.ref s.heap.objs.size) { s with heap := h', toks := tk }) :
    wpAny (model P w) A (call (.type "set") [.ref l]) Q E s := by
  have size_vs : vs.size = zs.length := by rw [← Array.length_toList]; exact ii.length
  obtain ⟨c0, t0, mro0⟩ := F.called_set.mro
  have z1 := F.called_set.made; have z2 := F.called_set.sub; have z3 := F.called_set.notType; have z4 := F.called_set.canCreate; have z5 := F.typeCall_set_1 (.ref l)
  refine wpAny_call (codeAny_of_tree (?_ : wpAny _ _ (callAny (.type "set") _) _ _ _))
  refine wpAny_pure ⟨Code.quiet_builtin _ (by decide +kernel), codeAny_builtin F.entry_type_call (?_ : _)⟩
  rw [(Around.under_plain (weight_type_call_type "set" [.ref l] []) rfl : _)]
  repeat (any_goals (first | assumption | wp_step))
  refine codeAny_mono (code_set_led1 (.ref l) (E := E) (Q₁ := fun u s₁ => u = .ref s.heap.objs.size ∧ s₁ = with0 w s) ⟨rfl, rfl⟩) fun r s₁ hr => ?_
  cases r with
  | error e => exact (hr : _)
  | ok fl =>
    cases fl with
    | ret u =>
      obtain ⟨rfl, rfl⟩ := hr
      have at0 : (s.heap.push (set0 w)).get? s.heap.objs.size = some (set0 w) := Heap.get?_push_size _ rfl
      have ty0 : Shared.TypeIs (with0 w s) (.ref s.heap.objs.size) "set" := ⟨_, at0, rfl⟩
      have z6 := F.called_set.init.lookup; have z7 := F.called_set.init.bind (.ref s.heap.objs.size)
      repeat (any_goals (first | assumption | wp_step))
      refine codeAny_mono (codeAny_call_builtin (R := wants (fun r s₂ => r = .none ∧ ∃ h' tk c, s₂ = { s with heap := h', toks := tk } ∧ SetR w h' s.heap.objs.size (fun j => decide (j ∈ zs)) c ∧ c ≤ zs.length ∧
          (∀ b o, s.heap.get? b = some o → h'.get? b = some o)) E) F.called_set.init.plain F.entry_set_init (check_set_init_1 ty0 ?_)) fun r₂ s₂ hr₂ => ?_
      · obtain ⟨ol, hol, e1, nl, e2⟩ := hls
        obtain ⟨k1, k2, k3, k4⟩ := ol
        simp only at e1 e2
        subst e1 e2
        have hol' : (s.heap.push (set0 w)).get? l = some { cls := .type "list", dict := k2, data := .seq vs nl, slots := k4 } := Heap.get?_push_of_some _ hol
        have y1 := F.sub_list_set; have y2 := F.sub_list_frozenset
        have y3 : (Value.type "list" == Value.type "dict") = false := by decide
        have hl1 : (s.heap.push (set0 w)).IsList l vs := ⟨_, hol', rfl, nl, rfl⟩
        unfold Builtin.«set.__init__» noKeywords Builtin.Frozenset.updateFrom
        generalize hPI : pyIter = PI
        wp_walk
        subst hPI
        refine wpAny_pyIter_list hl1 (wpAny_bind (wpAny_runValue ?_))
        have ls : l < s.heap.objs.size := Heap.lt_size hol
        have hnd3 : A.in1.in1.in1.handled = none := by simp [hnd]
        have sz1 : (s.heap.push (set0 w)).objs.size = s.heap.objs.size + 1 := Heap.size_push ..
        have neI : l ≠ (s.heap.push (set0 w)).objs.size := by
          rw [sz1]
          exact adr1 ls
        have nS : s.heap.objs.size ∉ [(s.heap.push (set0 w)).objs.size, l] := by
          rw [sz1]
          simp only [List.mem_cons, List.not_mem_nil, or_false, not_or]
          exact adr2 ls
        have vals : ∀ (i : Nat) (v : Value), vs[i]? = some v → ∃ k t, zs[i]? = some k ∧ v = .int k t := fun i v hv => by
          have hi : i < zs.length := by rw [← size_vs]; exact (Array.getElem?_eq_some_iff.mp hv).1
          obtain ⟨t, e⟩ := IntsAre.int_at ii i v (by rw [Array.getElem?_toList]; exact hv)
          refine ⟨zs[i], t, List.getElem?_eq_getElem hi, e.trans ?_⟩
          show Value.int (zs.getD i 0) t = _
          rw [List.getD_eq_getElem?_getD, List.getElem?_eq_getElem hi]
          rfl
        refine set_update_ints ((Walks.list hnd3 _ l neI vs).toS) s.heap.objs.size nS zs size_vs room vals (vs.size - 0) 0 _ (by omega) (Nat.zero_le _) ⟨⟨_, Heap.get?_push_size _ rfl, rfl, rfl⟩, (hl1.push _)⟩ ?start ?done
        case start =>
          have at1 : ((s.heap.push (set0 w)).push { cls := .type "list_iterator", data := .fields #[.ref l, .int 0 0] }).get? s.heap.objs.size = some (set0 w) := Heap.get?_push_of_some _ at0
          exact ⟨0, Nat.le_refl 0, setR_new_at at1⟩
        case done =>
          intro s' c' mv hc' hS'
          obtain ⟨h', g2, d', tk', os'⟩ := s'
          obtain rfl : g2 = s.gens := mv.gens
          obtain rfl : d' = s.drawn := mv.drawn
          obtain rfl : os' = s.os := mv.os
          show wpAny _ _ _ _ _ _
          refine wpAny_pure (?_ : wpAny _ _ (ret Value.none) _ _ _)
          rw [size_vs] at hc'
          refine wpAny_pure ⟨rfl, h', tk', c', rfl, hS', hc', fun b o e => ?_⟩
          have b0 : b < s.heap.objs.size := Heap.lt_size e
          refine mv.heap b o ?_ (Heap.get?_push_of_some _ (Heap.get?_push_of_some _ e))
          simp only [List.mem_cons, List.not_mem_nil, or_false, not_or]
          rw [sz1]
          exact adr3 b0
      · cases r₂ with
        | error e => exact (hr₂ : _)
        | ok fl₂ =>
          cases fl₂ with
          | ret r =>
            obtain ⟨rfl, h', tk, c', rfl, hS', hc', hk'⟩ := hr₂
            repeat (any_goals (first | assumption | wp_step))
            exact fin _ _ _ hS' hc' hk'
          | _ => exact hr₂.elim
    | _ => exact hr.elim
end
def tSrtSet (K : PySem.W.Frag) (ta : TE) : TE := fun σ H Q => ta σ H fun x H1 => ∃ (l : Addr) (ns : List Int), x = .ref l ∧ SqL K H1 l (ns.map V.int) ∧ ns.length < 60 ∧
  ∀ (zs : List Int) (p : Addr), zs.Pairwise (· < ·) → (∀ k : Int, k ∈ zs ↔ k ∈ ns) → H1 p = none → Q (.ref p) (upd H1 p (.lst (zs.map V.int)))
theorem pe_srtSet {X : Cx} {a : Expr} {ta : TE} {p p2 q pos : Pos} (hg : Gl X "sorted") (hm : X.mg "sorted" = none) (hg2 : Gl X "set") (hm2 : X.mg "set" = none) (ha : PE X a ta) (hc : X.calm = true)
    (na : starEach [a] X.env = (false, eval a X.env) :: starEach [] X.env) : PE X (.Call (.Name "sorted" p) [.Call (.Name "set" p2) [a] [] q] [] pos) (tSrtSet X.K ta) := by
  refine ⟨fun pins s σ H Q I h => ?_⟩
  refine Call_ (ld_blt I hg hm (u := .builtin "sorted") (by decide +kernel) ?_)
  refine PyProof.Rows.callWith_builtin1 (PyProof.Rows.args_cons ?_ rfl) rfl rfl
  refine Call_ (ld_blt I hg2 hm2 boot_set ?_)
  refine PyProof.Rows.callWith_type1 (PyProof.Rows.args_cons (thn (ha.run pins s σ H _ I h) fun v s1 ⟨x, H1, I1, r1, q1⟩ => PyProof.Rows.args_nil ?_) na) na rfl
  obtain ⟨l, ns, rfl, hq, hl, q1⟩ := q1
  cases r1
  obtain ⟨its, r, pl, hz⟩ := I1.list hq
  refine set_of_list ns (I1.ok.hd hc) pl.isList (by simpa using RZ.intsAre_vals r) (by unfold scanBound; omega) fun h' tk c hS hcn hk => ?_
  refine PyProof.Rows.args_nil ?_
  obtain ⟨s9, h9⟩ : ∃ s9 : Shared, s9 = { s1 with heap := h', toks := tk } := ⟨_, rfl⟩
  have I2 : Inv X pins σ H1 s9 := by
    rw [h9]
    exact I1.kept fun b o e => hk b o e
  have hS : SetR X.w s9.heap s1.heap.objs.size (fun j => decide (j ∈ ns)) c := by
    rw [h9]
    exact hS
  rw [← h9]
  refine sorted_set hS (I2.ok.hd hc) (by omega) fun s' p2 out c2 zs k2 g2 o2 hp2 hg2 hi2 hs2 hm2 hl2 => ?_
  have hlen : (zs.map V.int).length ≤ sizeLine := by rw [List.length_map, hl2, sizeLine_eq]; omega
  have hn : H1 p2 = none := I2.hok.fresh hp2
  have J : Inv X pins σ (upd H1 p2 (.lst (zs.map V.int))) { s9 with heap := s'.heap, gens := s'.gens, drawn := s'.drawn, toks := s'.toks } :=
    I2.call (ch := []) (Un.laid k2 hp2 hn) (I2.hok.laid k2 hp2 ⟨hlen, out.toList, c2, vals_of_ints hi2, hg2⟩) (by rw [g2]; exact I2.bare) (fun _ z => nomatch z)
  have e : s' = { s9 with heap := s'.heap, gens := s'.gens, drawn := s'.drawn, toks := s'.toks } := by
    obtain ⟨h3, g3, d3, t3, o3⟩ := s'
    obtain rfl : o3 = s9.os := o2
    rfl
  rw [e]
  exact ⟨.ref p2, _, J, rfl, q1 zs p2 hs2 (fun k => by rw [hm2 k, decide_eq_true_eq]) hn⟩
end L2

set_option maxHeartbeats 4000000
/-! zip of a tuple and a list, over the library's Draws -/
namespace EV
open PySem PySem.Spec PyProof.Rows L2
/-- the tuple at a and the list at b, item by item in new pairs -/
def ItzM (K : PySem.W.Frag) (a b : Addr) : It :=
  ⟨fun i H => ∃ (xs ys : List V) (x y : V), SqT K H a xs ∧ SqL K H b ys ∧ xs[i]? = some x ∧ ys[i]? = some y,
    fun i H v H' => ∃ T x y, v = .ref T ∧ H T = none ∧ H' = upd H T (.tup [x, y]) ∧ (∀ xs, SqT K H a xs → xs[i]? = some x) ∧ ∀ ys, SqL K H b ys → ys[i]? = some y,
    fun i H => ∃ xs ys : List V, SqT K H a xs ∧ SqL K H b ys ∧ min xs.length ys.length = i⟩
abbrev ZmSt (z TI TO i1 i2 a b : Addr) (i : Nat) (h : Heap) : Prop := IsZip h z TI TO .none ∧ IsTupOf2 h TI (.ref i1) (.ref i2) ∧ (∃ x y, IsTupOf2 h TO x y) ∧ h.IsTupleIter i1 a i ∧ h.IsListIter i2 b i
theorem five {P : Addr → Prop} {z TI TO i1 i2 : Addr} (a1 : P z) (a2 : P TI) (a3 : P TO) (a4 : P i1) (a5 : P i2) : ∀ c ∈ [z, TI, TO, i1, i2], P c := fun c hc => by
  rcases List.mem_cons.mp hc with rfl | hc
  · exact a1
  rcases List.mem_cons.mp hc with rfl | hc
  · exact a2
  rcases List.mem_cons.mp hc with rfl | hc
  · exact a3
  rcases List.mem_cons.mp hc with rfl | hc
  · exact a4
  rw [List.mem_singleton.mp hc]
  exact a5
theorem ZmSt.has {z TI TO i1 i2 a b : Addr} {i : Nat} {h : Heap} (st : ZmSt z TI TO i1 i2 a b i h) : ∀ c ∈ [z, TI, TO, i1, i2], ∃ o, h.get? c = some o ∧ ∀ v, o.data ≠ .cell v := by
  obtain ⟨hz, hTI, ⟨x, y, hTO⟩, ⟨o1, e1, _, d1⟩, ⟨o2, e2, _, d2⟩⟩ := st
  refine five ⟨_, hz, fun v q => nomatch q⟩ ⟨_, hTI, fun v q => nomatch q⟩ ⟨_, hTO, fun v q => nomatch q⟩ ⟨o1, e1, fun v q => ?_⟩ ⟨o2, e2, fun v q => ?_⟩
  · rw [d1] at q
    cases q
  · rw [d2] at q
    cases q
theorem drawsM {prog : Program} {w : World} {A : Around} {z TI TO i1 i2 a b : Addr} {xs ys : Array Value} {elts : List Expr} {kk : Nat} {tpos : Pos} (S : ZipSep2 z TI TO i1 i2 [i1, a] [i2, b]) (n1 : a ≠ i1) (n2 : b ≠ i2) (hh : A.handled = none) :
    GoesN prog w A (.Tuple elts kk tpos) z (z :: TI :: TO :: ([i1, a] ++ [i2, b])) [z, TO, i1, i2] (min xs.size ys.size) (fun i h₀ v h => ∃ T x y, v = .ref T ∧ h₀.objs.size ≤ T ∧ xs[i]? = some x ∧ ys[i]? = some y ∧ h.IsTuple T #[x, y])
      (fun i h => IsZip h z TI TO .none ∧ IsTupOf2 h TI (.ref i1) (.ref i2) ∧ (∃ a1 a2, IsTupOf2 h TO a1 a2) ∧ (h.IsTupleIter i1 a i ∧ h.IsTuple a xs) ∧ (h.IsListIter i2 b i ∧ h.IsList b ys)) :=
  GoesN.zip2 S (Draws.tuple (A := A.in1) hh i1 a n1 xs) (Draws.list (A := A.in1) hh i2 b n2 ys)
theorem turn_zipM {P : Program} {w : World} {K : PySem.W.Frag} {elts : List Expr} {kk : Nat} {tpos : Pos} {a b z TI TO i1 i2 : Addr} (S : ZipSep2 z TI TO i1 i2 [i1, a] [i2, b]) (n1 : a ≠ i1) (n2 : b ≠ i2) :
    Turn P w K (.Tuple elts kk tpos) (ItzM K a b) [z, TI, TO, i1, i2] z (ZmSt z TI TO i1 i2 a b) where
  mem := List.mem_cons_self ..
  obj := fun i h st => st.has
  keep := fun i h h' st k => by
    obtain ⟨hz, hTI, ⟨x, y, hTO⟩, h1, h2⟩ := st
    exact ⟨k z (by simp) _ hz, k TI (by simp) _ hTI, ⟨x, y, k TO (by simp) _ hTO⟩, h1.at fun o q => k i1 (by simp) o q, h2.at fun o q => k i2 (by simp) o q⟩
  item := by
    intro X hP hw hK hc i pins s σ H E I hf st hg
    subst hP hw hK
    obtain ⟨xs, ys, x, y, hqx, hqy, hx, hy⟩ := hg
    obtain ⟨its, rv, p, _⟩ := I.tuple hqx
    obtain ⟨its2, rv2, p2, _⟩ := I.list hqy
    obtain ⟨u, hu, ru⟩ := rv.get hx
    obtain ⟨u2, hu2, ru2⟩ := rv2.get hy
    have lt1 := (List.getElem?_eq_some_iff.mp hu).1
    have lt2 := (List.getElem?_eq_some_iff.mp hu2).1
    have live : ∀ c ∈ [z, TI, TO, i1, i2], c < s.heap.objs.size := fun c hcm => by
      obtain ⟨o, ho, _⟩ := st.has c hcm
      exact Heap.lt_size ho
    have G := drawsM (prog := X.prog) (w := X.w) (A := X.A) (xs := its.toArray) (ys := its2.toArray) (elts := elts) (kk := kk) (tpos := tpos) S n1 n2 (I.ok.hd hc)
    refine G.goes i s _ E (by simp; omega) ⟨st.1, st.2.1, st.2.2.1, ⟨st.2.2.2.1, p⟩, ⟨st.2.2.2.2, p2.isList⟩⟩ fun v h' tk hY st' hk htk => ?_
    obtain ⟨T, v1, v2, rfl, hT, e1, e2, ⟨oT, gT, cT, nT, dT⟩⟩ := hY
    have ev1 : v1 = u := by simpa [hu] using e1.symm
    have ev2 : v2 = u2 := by simpa [hu2] using e2.symm
    subst ev1 ev2
    have new : ObjOk X.prog X.w (upd H T (.tup [x, y])) h' T (.tup [x, y]) :=
      ⟨by show 2 ≤ sizeLine; decide, [v1, v2], .cons ru (.cons ru2 .nil), ⟨oT, gT, cT, nT, dT⟩⟩
    have I1 : Inv X pins σ (upd H T (.tup [x, y])) { s with heap := h', toks := tk } :=
      I.turnedNew (t' := tk) (ch := [z, TI, TO, i1, i2]) (fun c o hb q => hk c o (fun q' => hb (by
        have q' : c = z ∨ c = TO ∨ c = i1 ∨ c = i2 := by simpa using q'
        rcases q' with q' | q' | q' | q' <;> simp [q'])) q) hf hT new
    refine ⟨.ref T, _, I1, rfl, ⟨_, x, y, rfl, I.hok.fresh hT, rfl, fun l hl => by rw [I.tuple_inj hl hqx]; exact hx, fun l hl => by rw [I.list_inj hl hqy]; exact hy⟩, ⟨st'.1, st'.2.1, st'.2.2.1, st'.2.2.2.1.1, st'.2.2.2.2.1⟩, fun c hcm => ?_⟩
    rw [upd_ne (Nat.ne_of_lt (Nat.lt_of_lt_of_le (live c hcm) hT))]
    exact (hf c hcm).1
  done := by
    intro X hP hw hK hc i pins s σ H E I hf st hg
    subst hP hw hK
    obtain ⟨xs, ys, hqx, hqy, hend⟩ := hg
    obtain ⟨its, rv, p, _⟩ := I.tuple hqx
    obtain ⟨its2, rv2, p2, _⟩ := I.list hqy
    have l1 := rv.length
    have l2 := rv2.length
    have G := drawsM (prog := X.prog) (w := X.w) (A := X.A) (xs := its.toArray) (ys := its2.toArray) (elts := elts) (kk := kk) (tpos := tpos) S n1 n2 (I.ok.hd hc)
    have en : min its.toArray.size its2.toArray.size = i := by simp; omega
    rw [en] at G
    exact G.stops s _ E ⟨st.1, st.2.1, st.2.2.1, ⟨st.2.2.2.1, p⟩, ⟨st.2.2.2.2, p2.isList⟩⟩ fun h' tk hk _ => I.turnedL (t' := tk) (ch := [z, TI, TO, i1, i2]) (fun c o hb q => hk c o (fun q' => hb (by
        have q' : c = z ∨ c = TO ∨ c = i1 ∨ c = i2 := by simpa using q'
        rcases q' with q' | q' | q' | q' <;> simp [q'])) q) hf
  self := fun A i s Q E st h => wpAny_pyIter_zip st.1 h
/-- zip(list, list) or zip(tuple, list) -/
def iZipM (K : PySem.W.Frag) (ta : TA) : TI := fun σ H R => ta σ H fun vs H1 => ∃ a b xs ys, vs = [.ref a, .ref b] ∧ ((SqL K H1 a xs ∧ SqL K H1 b ys ∧ R (Itz K a b) H1) ∨ (SqT K H1 a xs ∧ SqL K H1 b ys ∧ R (ItzM K a b) H1))
theorem pi_zipM {X : Cx} {e e2 : Expr} {ta : TA} {p pos tpos : Pos} {elts : List Expr} {kk : Nat} (hg : Gl X "zip") (hm : X.mg "zip" = none) (ha : PA X [e, e2] ta)
    (hs : starEach [e, e2] X.env = (false, eval e X.env) :: starEach [e2] X.env) (hpl : (backTo pos (starEach [e2] X.env)).any (·.1) = false) :
    PI X (.Tuple elts kk tpos) (.Call (.Name "zip" p) [e, e2] [] pos) (iZipM X.K ta) := by
  refine ⟨fun pins s σ H R I h => Call_ (ld_blt I hg hm PyProof.Rows.boot_zip (PyProof.Rows.callWith_type1 (thn (ha.run pos pins s σ H _ I h) fun us s1 ⟨vs, H1, I1, r1, a, b, xs, ys, ex, q1⟩ => ?_) hs hpl))⟩
  subst ex
  cases r1 with
  | cons r rr =>
  cases rr with
  | cons r' rr =>
  cases rr
  cases r
  cases r'
  have fresh5 : ∀ c, c ∈ [s1.heap.objs.size + 4, s1.heap.objs.size + 2, s1.heap.objs.size + 3, s1.heap.objs.size, s1.heap.objs.size + 1] → FpOk X pins H1 c := by
    have g : ∀ k : Nat, FpOk X pins H1 (s1.heap.objs.size + k) := fun k => I1.fpOk (Nat.le_add_right _ _) (I1.hok.fresh (Nat.le_add_right _ _))
    exact five (g 4) (g 2) (g 3) (g 0) (g 1)
  rcases q1 with ⟨hqx, hqy, q⟩ | ⟨hqx, hqy, q⟩
  · obtain ⟨its, rv, p1, _⟩ := I1.list hqx
    obtain ⟨its2, rv2, p2, _⟩ := I1.list hqy
    refine call_zip_2 p1.isList p2.isList fun h' hz hTI hTO h1 h2 hsz hk => wpAny_pyIter_zip hz ?_
    exact ⟨_, _, _, _, H1, rfl, I1.kept (t' := s1.toks) hk, turn_zip (PySem.W.ktu_apart s1.heap.objs.size a b p1.lt p2.lt), ⟨hz, hTI, ⟨_, _, hTO⟩, h1, h2⟩, fresh5, q⟩
  · obtain ⟨its, rv, p1, _⟩ := I1.tuple hqx
    obtain ⟨its2, rv2, p2, _⟩ := I1.list hqy
    have la : a < s1.heap.objs.size := by
      obtain ⟨o, ho, _⟩ := id p1
      exact Heap.lt_size ho
    have lb : b < s1.heap.objs.size := p2.lt
    refine zip_begins2 (begins_tuple a its.toArray) (begins_list b its2.toArray) p1 p2.isList fun h' hz hTI hTO h1 h2 hsz hk => wpAny_pyIter_zip hz ?_
    exact ⟨_, _, _, _, H1, rfl, I1.kept (t' := s1.toks) hk, turn_zipM (zip_sep2 (fun c hc => by rw [List.mem_singleton.mp hc]; exact la) (fun c hc => by rw [List.mem_singleton.mp hc]; exact lb)) (Nat.ne_of_lt la) (Nat.ne_of_lt (Nat.lt_of_lt_of_le lb (Nat.le_add_right _ _))),
      ⟨hz, hTI, ⟨_, _, hTO⟩, ⟨_, h1, rfl, rfl⟩, ⟨_, h2, rfl, rfl⟩⟩, fresh5, q⟩
end EV

/-! calls, isinstance, subscripts, what loops walk -/
namespace EV
open PySem PySem.Spec PyProof.Rows L2

/-- the promise of the def f: it hands back what the evaluator hands back -/
def spF (K : PySem.W.Frag) (ca : Nat → Addr) (CT : CTb) (f : Nat) : Sp := fun vs H Q E =>
  ∃ (L : Nat) (m : Pl) (s : Sto) (ds : List D), L ≤ s.length ∧ SRel K m s H ∧ RDs K m H ds vs ∧ PX K ca L (RD K) m s H (CT f ds s) Q E
theorem takes0N {X : Cx} : L2N.Takes X (fun _ _ _ _ => False) := fun _ _ x => by
  obtain ⟨_, _, _, _, _, _, _, _, _, _, _, _, _, _, _, _, w⟩ := x
  exact w.elim
theorem cxUpN {P : Program} {w : World} : StX.CXUp (L2N.CX P w) := by
  rintro outer s H s2 H2 E e s' un kp ho ⟨a, B, H', cls, d, ea, fl, hok, ub, na, os, ag, he⟩
  refine ⟨a, B, H', cls, d, ea, fl, hok, ⟨fun b o q n hb => ub.keep b o (kp b o q) (un.free b o q n (by simp)) hb, fun b o q hb => ub.slot b o (kp b o q) hb, fun b o q n => ub.free b o (kp b o q) (un.free b o q n (by simp)),
    fun b o q hb => ub.there b o (kp b o q) hb, fun b xs q => ub.tups b xs (un.tups b xs q), fun b o xs q => ub.frzs b o xs (un.frzs b o xs q), fun b ps q => ?_⟩, na, os.trans ho, ag, he⟩
  obtain ⟨m1, e1⟩ := un.tbls b ps q
  obtain ⟨m2, e2⟩ := ub.tbls b _ e1
  exact ⟨m1 ++ m2, by rw [e2, Array.append_assoc]⟩
/-- what a caller must know of a def of the table -/
def FnC (CT : CTb) (nm : Str) (C : Ct) (f : Nat) : Prop :=
  ∃ (k : Nat) (fa : Addr), C.X.mg nm = some (.ref fa) ∧ PySem.W.keepIn C.X.K (.ref fa) = true ∧ FnR C.X.prog C.X.w C.X.K C.X.mg C.X.base (L2N.CX C.X.prog C.X.w) k fa (spF C.X.K C.ca CT f) ∧ Room k C.X.A
/-- .. of a call _law_error(f, ..): number i tells what comes of it -/
def FnE (CT : CTb) (nm : Str) (C : Ct) (i : Nat) : Prop :=
  ∃ (k : Nat) (fe fa : Addr), C.X.mg "_law_error" = some (.ref fe) ∧ PySem.W.keepIn C.X.K (.ref fe) = true ∧ C.X.mg nm = some (.ref fa) ∧
    FnR C.X.prog C.X.w C.X.K C.X.mg C.X.base (L2N.CX C.X.prog C.X.w) k fe (fun vs H Q E => ∃ us, vs = .ref fa :: us ∧ spF C.X.K C.ca CT i us H Q E) ∧ Room k C.X.A
section
variable {C : Ct} {m m1 m2 : Pl} {H H1 H2 : Hp} {s s1 s2 : Sto} {ρ : Env} {σ : L2.St} {K : PySem.W.Frag} {L : Nat}
variable {a b c x y z : Expr} {ca cb cc : Env → Sto → Option (Out D)} {pos p : Pos} {es : List Expr} {cs : Env → Sto → Option (Out (List D))} {CT : CTb} {nm : Str} {f : Nat}
section
variable {X : Cx} {CX : CXT} {k : Nat} {f : Addr} {sp : Sp} {E : L2.St → XK} {x : Str} {p pos : Pos} {e : Expr} {es : List Expr} {t : TA}
def tCallR (sp : Sp) (E : L2.St → XK) (t : TA) : TE := fun σ H Q => t σ H fun vs H1 => sp vs H1 Q (E σ)
theorem run_fnRD {pins : List (Addr × Obj)} {σ : L2.St} {H : Hp} {s : Shared} {Q : VK} {us : List Value} {vs : List V} (F : FnR X.prog X.w X.K X.mg X.base CX k f sp) (hr : Room k X.A) (hx : PassesAt CX X σ (E σ))
    (I : Inv X pins σ H s) (r : Vals vs us) (h : sp vs H Q (E σ)) : wpAny (model X.prog X.w) X.A (call (.ref f) us) (EP X pins σ Q) X.xe s := by
  refine wpAny_call (codeAny_mono (F X.A X.stack s H us vs Q (E σ) hr I.env0 r h) fun r s' hq => ?_)
  cases r with
  | error e => exact hx pins H s e s' I hq
  | ok fl =>
    cases fl with
    | ret u => exact I.after hq
    | next => exact False.elim hq
    | brk => exact False.elim hq
    | cont => exact False.elim hq
theorem pe_callRD (F : FnR X.prog X.w X.K X.mg X.base CX k f sp) (hr : Room k X.A) (hg : Gl X x) (hm : X.mg x = some (.ref f)) (hk : PySem.W.keepIn X.K (.ref f) = true) (hx : ∀ σ, PassesAt CX X σ (E σ))
    (ha : PA X (e :: es) t) (hdb : (x == ("__debug__" : Str)) = false) (he : starEach (e :: es) X.env = (false, eval e X.env) :: starEach es X.env) (hpl : (backTo pos (starEach es X.env)).any (·.1) = false) :
    PE X (.Call (.Name x p) (e :: es) [] pos) (tCallR sp E t) := by
  refine ⟨fun pins s σ H Q I h => ?_⟩
  refine wpAny_Call_Name_kw (ld_glob I hg hm ?_ hdb)
  refine PySem.W.callWith_K (h₀ := X.base) I.ok.mod.kin hk (thn (ha.run pos pins s σ H _ I h) fun us s1 ⟨vs, H1, I1, r, q⟩ => ⟨I1.kIn, ?_⟩) he hpl
  exact run_fnRD F hr (hx σ) I1 r q
theorem pe_callR0 (F : FnR X.prog X.w X.K X.mg X.base CX k f sp) (hr : Room k X.A) (hg : Gl X x) (hm : X.mg x = some (.ref f)) (hk : PySem.W.keepIn X.K (.ref f) = true) (hx : ∀ σ, PassesAt CX X σ (E σ))
    (hdb : (x == ("__debug__" : Str)) = false) : PE X (.Call (.Name x p) [] [] pos) (tCallR sp E tNil) := by
  refine ⟨fun pins s σ H Q I h => ?_⟩
  refine wpAny_Call_Name_kw (ld_glob I hg hm ?_ hdb)
  exact PySem.W.callWith_K0 I.kIn hk (run_fnRD (us := []) (vs := []) F hr (hx σ) I .nil h)
end
theorem se_call (F : FnC CT nm C f) (tk : L2N.Takes C.X C.W) (hg : Gl C.X nm) (hdb : (nm == ("__debug__" : Str)) = false) (hst : (a :: es).any isStar = false) (h : SA C (a :: es) cs) :
    SE C (.Call (.Name nm p) (a :: es) [] pos) (fun ρ s => bnd (cs ρ s) fun xs s1 => CT f xs s1) := by
  obtain ⟨k, fa, hm, hk, F, hr⟩ := F
  have use : ∀ (σ : L2.St) (H : Hp) (Q : VK), tG C (RD C.X.K) (fun ρ s => bnd (cs ρ s) fun xs s1 => CT f xs s1) σ H Q →
      tCallR (spF C.X.K C.ca CT f) (WE C.W) (tG C (RDs C.X.K) cs) σ H Q := by
    rintro σ H Q ⟨ρ, m, s, hR, hP⟩
    refine ⟨ρ, m, s, hR, (PX.bnd (R := RDs C.X.K) hP).mono fun vs H1 ⟨xs, m1, s1, t1, S, rx, q⟩ => ?_⟩
    exact ⟨C.L, m1, s1, xs, Nat.le_trans hR.base t1.slen, S, rx, q⟩
  rw [List.any_cons, Bool.or_eq_false_iff] at hst
  exact PE.imp (pe_callRD F hr hg hm hk (fun σ => L2N.passAt tk σ) h hdb (starEach_cons hst.1) (noStar_any hst.2)) use
theorem se_err {q : Pos} (F : FnE CT nm C f) (tk : L2N.Takes C.X C.W) (hg : Gl C.X "_law_error") (hgn : Gl C.X nm) (hdb : (nm == ("__debug__" : Str)) = false) (hst : es.any isStar = false) (h : SA C es cs) :
    SE C (.Call (.Name "_law_error" p) (.Name nm q :: es) [] pos) (fun ρ s => bnd (cs ρ s) fun xs s1 => CT f xs s1) := by
  obtain ⟨k, fe, fa, hm, hk, hmn, F, hr⟩ := F
  refine PE.imp (pe_callRD F hr hg hm hk (fun σ => L2N.passAt tk σ) (pa_cons (pe_glob (v := .ref fa) hgn hmn rfl hdb) h (starEach_cons rfl)) (by decide) (starEach_cons rfl) (noStar_any hst)) fun σ H Q ⟨ρ, m, s, hR, hP⟩ => ?_
  show tG C (RDs C.X.K) cs σ H fun vs H1 => _
  refine ⟨ρ, m, s, hR, (PX.bnd (R := RDs C.X.K) hP).mono fun vs H1 ⟨xs, m1, s1, t1, S, rx, q⟩ => ?_⟩
  exact ⟨vs, rfl, C.L, m1, s1, xs, Nat.le_trans hR.base t1.slen, S, rx, q⟩
/-- f() -/
theorem se_call0 (F : FnC CT nm C f) (tk : L2N.Takes C.X C.W) (hg : Gl C.X nm) (hdb : (nm == ("__debug__" : Str)) = false) :
    SE C (.Call (.Name nm p) [] [] pos) (fun ρ s => CT f [] s) := by
  obtain ⟨k, fa, hm, hk, F, hr⟩ := F
  refine PE.imp (pe_callR0 F hr hg hm hk (fun σ => L2N.passAt tk σ) hdb) fun σ H Q ⟨ρ, m, s, hR, hP⟩ => ?_
  exact ⟨C.L, m, s, [], hR.base, hR.sr, rfl, hP⟩
/-- a built-in function or class -/
theorem se_biB {bi : BI} {id : String} (hc : CallR C.X (.builtin id) (rBi C bi)) (hg : Gl C.X nm) (hm : C.X.mg nm = none) (hv : bootBuiltins nm = some (.builtin id)) (hn : nm ≠ "__name__") (hdb : (nm == ("__debug__" : Str)) = false)
    (hst : (a :: es).any isStar = false) (h : SA C (a :: es) cs) : SE C (.Call (.Name nm p) (a :: es) [] pos) (fun ρ s => bnd (cs ρ s) fun xs s1 => pur s1 (biD bi s1 xs)) := by
  rw [List.any_cons, Bool.or_eq_false_iff] at hst
  refine PE.imp (pe_callB hc hg hm hv h hn hdb (starEach_cons hst.1) (noStar_any hst.2)) fun σ H Q h => ?_
  obtain ⟨ρ, m, s, hR, hP⟩ := args h
  refine ⟨ρ, m, s, hR, hP.mono fun vs H1 ⟨xs, m1, s1, S, rx, q⟩ => ?_⟩
  obtain ⟨d, e, q⟩ := q.pur
  exact ⟨xs, d, m1, s1, σ, S, rx, e, q⟩
theorem se_biT {bi : BI} {id : String} (hc : CallR C.X (.type id) (rBi C bi)) (hg : Gl C.X nm) (hm : C.X.mg nm = none) (hv : bootBuiltins nm = some (.type id)) (hn : nm ≠ "__name__") (hdb : (nm == ("__debug__" : Str)) = false)
    (hst : (a :: es).any isStar = false) (h : SA C (a :: es) cs) : SE C (.Call (.Name nm p) (a :: es) [] pos) (fun ρ s => bnd (cs ρ s) fun xs s1 => pur s1 (biD bi s1 xs)) := by
  rw [List.any_cons, Bool.or_eq_false_iff] at hst
  refine PE.imp (pe_callTy hc hg hm hv h hn hdb (starEach_cons hst.1) (noStar_any hst.2)) fun σ H Q h => ?_
  obtain ⟨ρ, m, s, hR, hP⟩ := args h
  refine ⟨ρ, m, s, hR, hP.mono fun vs H1 ⟨xs, m1, s1, S, rx, q⟩ => ?_⟩
  obtain ⟨d, e, q⟩ := q.pur
  exact ⟨xs, d, m1, s1, σ, S, rx, e, q⟩
theorem bi_repr : CallR C.X (.builtin "repr") (rBi C .repr) := by
  intro pins s0 σ0 H xs us Q I r h
  obtain ⟨ds, d, m, s, σ, S, rs, e, q⟩ := h
  refine fin_bi S rs e (fun a v ev r' e => ?_) fun a a' v v' ev r r' e => by cases e
  subst ev
  have e : reprD a = some d := e
  unfold reprD at e
  split at e
  · rename_i k h0
    cases e
    obtain ⟨u, rfl, r1⟩ := vals1 r
    have r2 : v = .bl k := r'
    subst r2
    cases r1
    exact PySem.P.repr_of_bool ⟨.str (if k then "True" else "False"), H, I.tok _, ⟨_, rfl⟩, q.here S rfl⟩
  · cases e

/-! ### isinstance -/
def tyN : Ty → String
  | .int => "int" | .bool => "bool" | .str => "str" | .tuple => "tuple" | .list => "list"
def tyOfD : D → Option String
  | .non => some "NoneType" | .bl _ => some "bool" | .int _ => some "int" | .str _ => some "str" | .tup _ => some "tuple" | .lst _ => some "list" | .scr _ => none | .adr _ => none | .gf _ _ => none | .loc _ => none
theorem kit_all : ∀ (n : String) (t : Ty), n ∈ ["NoneType", "bool", "int", "str", "tuple", "list"] → kitB n (tyN t) = some (match n, t with
    | "bool", .int => true | "bool", .bool => true | "int", .int => true | "str", .str => true | "tuple", .tuple => true | "list", .list => true | _, _ => false) := by
  intro n t h
  simp only [List.mem_cons, List.mem_nil_iff, or_false] at h
  rcases h with rfl | rfl | rfl | rfl | rfl | rfl <;> cases t <;> decide +kernel
theorem kit_isTy {d : D} {t : Ty} {b : Bool} (h : isTy t d = some b) : ∃ n, tyOfD d = some n ∧ ∀ K : PySem.W.Frag, PySem.W.kitOne K (.type n) (.type (tyN t)) = some b := by
  cases d with
  | non => cases h; exact ⟨_, rfl, fun K => kit_ty ((kit_all "NoneType" t (by simp)).trans (by cases t <;> rfl))⟩
  | bl k => cases h; exact ⟨_, rfl, fun K => kit_ty ((kit_all "bool" t (by simp)).trans (by cases t <;> rfl))⟩
  | int k => cases h; exact ⟨_, rfl, fun K => kit_ty ((kit_all "int" t (by simp)).trans (by cases t <;> rfl))⟩
  | str k => cases h; exact ⟨_, rfl, fun K => kit_ty ((kit_all "str" t (by simp)).trans (by cases t <;> rfl))⟩
  | tup k => cases h; exact ⟨_, rfl, fun K => kit_ty ((kit_all "tuple" t (by simp)).trans (by cases t <;> rfl))⟩
  | lst k => cases h; exact ⟨_, rfl, fun K => kit_ty ((kit_all "list" t (by simp)).trans (by cases t <;> rfl))⟩
  | scr k => cases h
  | loc k => cases h
  | adr k => cases h
  | gf i x => cases h
theorem tyX_of {d : D} {v : V} {n : String} (h : tyOfD d = some n) (r : RD K m H d v) : TyX K H v (.type n) := by
  cases d with
  | non => cases h; rw [show v = .non from r]; exact .base .non
  | bl k => cases h; rw [show v = .bl k from r]; exact .base (.bl k)
  | int k => cases h; rw [show v = .int k from r]; exact .base (.int k)
  | str k => cases h; rw [show v = .str k from r]; exact .base (.str k)
  | tup k =>
    cases h
    obtain ⟨a, vs, e, t, _⟩ := r
    rw [e]
    rcases t with (t | ⟨o, t⟩) | ⟨o, its, n, hk, hc, _⟩
    · exact .base (.tup t)
    · exact .fTuple t
    · exact .kTuple hk hc
  | lst k =>
    cases h
    obtain ⟨a, vs, e, _, t, _⟩ := r
    rw [e]
    exact .base (.lst t)
  | scr k => cases h
  | loc k => cases h
  | adr k => cases h
  | gf i x => cases h
theorem kit_isTys : ∀ {ts : List Ty} {d : D} {b : Bool}, isTys ts d = some b → ts ≠ [] → ∃ n, tyOfD d = some n ∧ ∀ K : PySem.W.Frag, PySem.W.kitAny K (.type n) (ts.map fun t => .type (tyN t)) = some b
  | [], _, _, _, h => absurd rfl h
  | t :: ts, d, b, h, _ => by
    unfold isTys at h
    split at h
    · rename_i e
      cases h
      obtain ⟨n, h1, h2⟩ := kit_isTy e
      exact ⟨n, h1, fun K => kitAny_cons (h2 K) (fun z => nomatch z) fun _ => rfl⟩
    · rename_i e
      obtain ⟨n, h1, h2⟩ := kit_isTy e
      by_cases hts : ts = []
      · subst hts
        cases h
        exact ⟨n, h1, fun K => kitAny_cons (h2 K) (fun _ => kitAny_nil) fun z => nomatch z⟩
      · obtain ⟨n', h3, h4⟩ := kit_isTys h hts
        rw [h1] at h3
        cases h3
        exact ⟨n, h1, fun K => kitAny_cons (h2 K) (fun _ => h4 K) fun z => nomatch z⟩
    · cases h
/-- a built-in class by its name -/
theorem pe_ty {t : Ty} {pos : Pos} (hg : Gl C.X (tyN t)) (hm : C.X.mg (tyN t) = none) : PE C.X (.Name (tyN t) pos) (tC (.ty (tyN t))) := by
  refine pe_bltn (u := .type (tyN t)) hg hm ?_ rfl ?_ ?_
  · cases t <;> decide +kernel
  · cases t <;> decide
  · cases t <;> decide
theorem se_isi1 {t : Ty} {q : Pos} (hg : Gl C.X "isinstance") (hm : C.X.mg "isinstance" = none) (hst : isStar a = false) (hgt : Gl C.X (tyN t)) (hmt : C.X.mg (tyN t) = none) (ha : SE C a ca) :
    SE C (.Call (.Name "isinstance" p) [a, .Name (tyN t) q] [] pos) (fun ρ s => bnd (ca ρ s) fun x s1 => pur s1 ((isTys [t] x).map .bl)) := by
  refine PE.imp (pe_callB call_isi hg hm boot_isinstance (pa_cons ha (pa_cons (pe_ty hgt hmt) pa_nil (starEach_cons rfl)) (starEach_cons hst)) (by decide) (by decide) (starEach_cons hst) rfl) fun σ H Q h => ?_
  obtain ⟨ρ, m, s, hR, hP⟩ := one h
  refine ⟨ρ, m, s, hR, hP.mono fun v H1 ⟨x, m1, s1, S, rx, q⟩ => ?_⟩
  obtain ⟨d, e, q⟩ := q.pur
  obtain ⟨b, e1, e2⟩ := Option.map_eq_some_iff.mp e
  subst e2
  have e3 : isTy t x = some b := by
    unfold isTys at e1
    split at e1
    · rename_i h; rw [h]; exact e1
    · rename_i h; rw [h]; exact e1
    · cases e1
  obtain ⟨n, h1, h2⟩ := kit_isTy e3
  exact ⟨v, .ty (tyN t), .type n, .type (tyN t), b, rfl, .ty _, tyX_of h1 rx, h2 _, q.here S rfl⟩
theorem se_isi2 {t u : Ty} {q q1 q2 : Pos} {kk : Nat} (hg : Gl C.X "isinstance") (hm : C.X.mg "isinstance" = none) (hst : isStar a = false) (hgt : Gl C.X (tyN t)) (hmt : C.X.mg (tyN t) = none) (hgu : Gl C.X (tyN u)) (hmu : C.X.mg (tyN u) = none) (ha : SE C a ca) :
    SE C (.Call (.Name "isinstance" p) [a, .Tuple [.Name (tyN t) q1, .Name (tyN u) q2] kk q] [] pos) (fun ρ s => bnd (ca ρ s) fun x s1 => pur s1 ((isTys [t, u] x).map .bl)) := by
  refine PE.imp (pe_callB call_isiT hg hm boot_isinstance (pa_cons ha (pa_cons (pe_tup (pa_cons (pe_ty hgt hmt) (pa_cons (pe_ty hgu hmu) pa_nil (starEach_cons rfl)) (starEach_cons rfl))) pa_nil (starEach_cons rfl)) (starEach_cons hst)) (by decide) (by decide) (starEach_cons hst) rfl) fun σ H Q h => ?_
  obtain ⟨ρ, m, s, hR, hP⟩ := one h
  refine ⟨ρ, m, s, hR, hP.mono fun v H1 ⟨x, m1, s1, S, rx, q⟩ => ?_⟩
  obtain ⟨d, e, q⟩ := q.pur
  obtain ⟨b, e1, e2⟩ := Option.map_eq_some_iff.mp e
  subst e2
  obtain ⟨n, h1, h2⟩ := kit_isTys e1 (by simp)
  refine ⟨by show 2 ≤ sizeLine; rw [sizeLine_eq]; decide, fun tp htp => ?_⟩
  exact ⟨v, tp, _, .type n, _, b, rfl, upd_same, .cons (.ty _) (.cons (.ty _) .nil), tyX_of h1 (RD.later (.new htp) x v rx), h2 _, q.fresh S htp rfl⟩

/-! ### subscripts -/
def isSlice : Expr → Bool
  | .Slice .. => true
  | _ => false
theorem plainIx {e : Expr} (h : isSlice e = false) : PlainIx e := fun o i => by cases e <;> first | rfl | cases h
theorem se_idx (hu : C.X.A.units + 1 < cLine) (hs : isSlice b = false) (ha : SE C a ca) (hb : SE C b cb) : SE C (.Subscript a b pos) (fun ρ s => bnd (ca ρ s) fun x s1 => bnd (cb ρ s1) fun y s2 => pur s2 (idxD s2 x y)) :=
  PE.imp (pe_ix (ix_seq.or (ix_dk hu)) ha hb (plainIx hs)) fun σ H Q h => bin_idx.use h
abbrev RO : Pl → Hp → Option Int → Option Int → Prop := fun _ _ a b => a = b
abbrev SO_ (C : Ct) (e : Option Expr) (c : Env → Sto → Option (Out (Option Int))) : Prop := PO C.X e (tG C RO c)
theorem PO.imp {X : Cx} {e : Option Expr} {t t' : TO} (h : PO X e t) (f : ∀ σ H Q, t' σ H Q → t σ H Q) : PO X e t' := ⟨fun pins s σ H Q I q => h.run pins s σ H Q I (f _ _ _ q)⟩
theorem so_none : SO_ C none (fun _ s => some (.ok none s)) := PO.imp po_none fun σ H Q ⟨ρ, m, s, hR, hP⟩ => hP.here hR.sr rfl
theorem so_some (h : SE C a ca) : SO_ C (some a) (fun ρ s => bnd (ca ρ s) fun x s1 => match x with
    | .int i => some (.ok (some i) s1)
    | _ => none) := by
  refine PO.imp (po_some h) fun σ H Q ⟨ρ, m, s, hR, hP⟩ => ?_
  refine ⟨ρ, m, s, hR, (PX.bnd (R := RD C.X.K) hP).mono fun v H1 ⟨x, m1, s1, t1, S1, rx, q⟩ => ?_⟩
  cases x with
  | int i => exact ⟨i, rx, q.here S1 rfl⟩
  | _ => exact (show False from q).elim
theorem se_slc {lo hi : Option Expr} {cl ch : Env → Sto → Option (Out (Option Int))} {p2 : Pos} (ha : SE C a ca) (hl : SO_ C lo cl) (hh : SO_ C hi ch) :
    SE C (.Subscript a (.Slice lo hi none p2) pos) (fun ρ s => bnd (ca ρ s) fun x s1 => bnd (cl ρ s1) fun l s2 => bnd (ch ρ s2) fun h s3 => pur s3 (slcD s3 x l h)) := by
  refine PE.imp (pe_slice slr_all ha hl hh) fun σ H Q ⟨ρ, m, s, hR, hP⟩ => ?_
  refine ⟨ρ, m, s, hR, (PX.bnd (R := RD C.X.K) hP).mono fun v H1 ⟨x, m1, s1, t1, S1, rx, q⟩ => ?_⟩
  refine ⟨ρ, m1, s1, hR.step t1 S1, (PX.bnd (R := RO) q).mono fun l' H2 ⟨l, m2, s2, t2, S2, rl, q2⟩ => ?_⟩
  refine ⟨ρ, m2, s2, (hR.step t1 S1).step t2 S2, (PX.bnd (R := RO) q2).mono fun h' H3 ⟨h, m3, s3, t3, S3, rh, q3⟩ => ?_⟩
  obtain ⟨d, e, q3⟩ := q3.pur
  have rl : l = l' := rl
  have rh : h = h' := rh
  subst rl rh
  exact slc_ok S3 (RD.later t3.later x v (RD.later t2.later x v rx)) e q3
theorem se_rev {k : Nat} {p1 p2 p3 : Pos} (ha : SE C a ca) : SE C (.Subscript a (.Slice none none (some (.UnaryOp .USub (.Constant (.int 1) k p1) p2)) p3) pos) (fun ρ s => bnd (ca ρ s) fun x s1 => pur s1 (revD s1 x)) := by
  refine PE.imp (pe_revL ha) fun σ H Q h => ?_
  obtain ⟨ρ, m, s, hR, hP⟩ := one h
  refine ⟨ρ, m, s, hR, hP.mono fun v H1 ⟨x, m1, s1, S, rx, q⟩ => ?_⟩
  obtain ⟨d, e, q⟩ := q.pur
  unfold revD at e
  split at e
  · rename_i xs ex
    cases e
    obtain ⟨l, vs, e1, h1, r1⟩ := deref_lst S rx ex
    exact ⟨l, vs, e1, SqL.of h1, fun p hp => q.fresh S hp ⟨p, _, rfl, S.no hp, upd_same, RDs.later (.new hp) _ _ r1.reverse⟩⟩
  · cases e
theorem se_revT {k : Nat} {p1 p2 p3 : Pos} (ha : SE C a ca) : SE C (.Subscript a (.Slice none none (some (.UnaryOp .USub (.Constant (.int 1) k p1) p2)) p3) pos) (fun ρ s => bnd (ca ρ s) fun x s1 => pur s1 (revTD x)) := by
  refine PE.imp (pe_revT ha) fun σ H Q h => ?_
  obtain ⟨ρ, m, s, hR, hP⟩ := one h
  refine ⟨ρ, m, s, hR, hP.mono fun v H1 ⟨x, m1, s1, S, rx, q⟩ => ?_⟩
  obtain ⟨d, e, q⟩ := q.pur
  unfold revTD at e
  split at e
  · rename_i xs
    cases e
    obtain ⟨l, vs, e1, h1, r1⟩ := rx
    exact ⟨l, vs, e1, h1, fun p hp => q.fresh S hp ⟨p, _, rfl, SqT.of upd_same, RDs.later (.new hp) _ _ r1.reverse⟩⟩
  · cases e
theorem rng_rds (i j : Int) : RDs K m H (rngL i j) (rgV i j) := by
  unfold rngL rgV
  have h := RDs.rng (K := K) (m := m) (H := H) i 1 (List.range (j - i).toNat)
  simp only [Int.mul_one] at h
  exact h
theorem se_lrng {q1 q2 : Pos} (hg : Gl C.X "list") (hm : C.X.mg "list" = none) (hg2 : Gl C.X "range") (hm2 : C.X.mg "range" = none) (hc : C.X.calm = true) (hsa : isStar a = false) (hsb : isStar b = false) (ha : SE C a ca) (hb : SE C b cb) :
    SE C (.Call (.Name "list" p) [.Call (.Name "range" q1) [a, b] [] q2] [] pos) (fun ρ s => bnd (ca ρ s) fun x s1 => bnd (cb ρ s1) fun y s2 => match x, y with
    | .int i, .int j => if RgOk i j then some (.ok (.lst (rngL i j)) s2) else none
    | _, _ => none) := by
  have hp2 : (backTo q2 (starEach [b] C.X.env)).any (·.1) = false := noStar_any (by simp [hsb])
  refine PE.imp (pe_listRg hc hg hm (prg_2 hg2 hm2 ha hb (starEach_cons hsa) (starEach_cons hsb) hp2) (starEach_cons rfl)) fun σ H Q h => ?_
  obtain ⟨ρ, m, s, hR, hP⟩ := two h
  refine ⟨ρ, m, s, hR, hP.mono fun v H1 ⟨ρ1, m1, s1, hR1, hP1⟩ => ⟨ρ1, m1, s1, hR1, hP1.mono fun u H2 ⟨x, y, m2, s2, S, rx, ry, q⟩ => ?_⟩⟩
  split at q
  · rename_i i j
    split at q
    · rename_i ok
      exact ⟨i, j, rx, ry, ok, fun p hp => q.fresh S hp ⟨p, _, rfl, S.no hp, upd_same, rng_rds i j⟩⟩
    · exact (show False from q).elim
  · exact (show False from q).elim
theorem se_lrng1 {q1 q2 : Pos} (hg : Gl C.X "list") (hm : C.X.mg "list" = none) (hg2 : Gl C.X "range") (hm2 : C.X.mg "range" = none) (hc : C.X.calm = true) (hsa : isStar a = false) (ha : SE C a ca) :
    SE C (.Call (.Name "list" p) [.Call (.Name "range" q1) [a] [] q2] [] pos) (fun ρ s => bnd (ca ρ s) fun x s1 => match x with
    | .int j => if RgOk 0 j then some (.ok (.lst (rngL 0 j)) s1) else none
    | _ => none) := by
  refine PE.imp (pe_listRg hc hg hm (prg_1 hg2 hm2 ha (starEach_cons hsa)) (starEach_cons rfl)) fun σ H Q ⟨ρ, m, s, hR, hP⟩ => ?_
  refine ⟨ρ, m, s, hR, (PX.bnd (R := RD C.X.K) hP).mono fun v H1 ⟨x, m1, s1, t1, S, rx, q⟩ => ?_⟩
  split at q
  · rename_i j
    split at q
    · rename_i ok
      exact ⟨j, rx, ok, fun p hp => q.fresh S hp ⟨p, _, rfl, S.no hp, upd_same, rng_rds 0 j⟩⟩
    · exact (show False from q).elim
  · exact (show False from q).elim
theorem se_dst {q1 q2 : Pos} (hg : Gl C.X "len") (hm : C.X.mg "len" = none) (hg2 : Gl C.X "set") (hm2 : C.X.mg "set" = none) (hc : C.X.calm = true) (hst : isStar a = false) (ha : SE C a ca) :
    SE C (.Call (.Name "len" p) [.Call (.Name "set" q1) [a] [] q2] [] pos) (fun ρ s => bnd (ca ρ s) fun x s1 => pur s1 (dstD s1 x)) := by
  refine PE.imp (pe_lenSet2 hg hm hg2 hm2 ha hc (starEach_cons hst)) fun σ H Q ⟨ρ, m, s, hR, hP⟩ => ?_
  refine ⟨ρ, m, s, hR, (PX.bnd (R := RD C.X.K) hP).mono fun v H1 ⟨x, m1, s1, t1, S, rx, q⟩ => ?_⟩
  obtain ⟨d, e, q⟩ := q.pur
  unfold dstD at e
  split at e
  · rename_i ns hx
    split at e
    · rename_i hl
      cases e
      obtain ⟨b, e3, h1⟩ := intsD_val S rx hx
      exact ⟨b, ns, e3, h1, hl, q m1 H1 _ .refl S rfl⟩
    · cases e
  · cases e
/-- list(x), to be changed -/
theorem se_cpy (hg : Gl C.X "list") (hm : C.X.mg "list" = none) (hst : isStar a = false) (ha : SE C a ca) :
    SE C (.Call (.Name "list" p) [a] [] pos) (fun ρ s => bnd (ca ρ s) fun x s1 => match seqOf s1 x with
    | some xs => some (.ok (.loc s1.length) (s1 ++ [.lst xs]))
    | none => none) := by
  refine PE.imp (pe_callTy call_list_of hg hm (by decide +kernel) (sa_cons hst ha sa_nil) (by decide +kernel) (by decide +kernel) (starEach_cons hst) (noStar_any (r := []) rfl)) fun σ H Q ⟨ρ, m, s, hR, hP⟩ => ?_
  refine ⟨ρ, m, s, hR, ?_⟩
  have e : (bnd (ca ρ s) fun x s1 => match seqOf s1 x with
    | some xs => (some (.ok (.loc s1.length) (s1 ++ [.lst xs])) : Option (Out D))
    | none => none) = bnd (bnd (ca ρ s) fun x s1 => bnd (some (.ok ([] : List D) s1)) fun xs s2 => some (.ok (x :: xs) s2)) fun (xs : List D) s1 => match xs with
      | [x] => (match seqOf s1 x with
        | some xs => (some (.ok (.loc s1.length) (s1 ++ [.lst xs])) : Option (Out D))
        | none => none)
      | _ => none := by
    match ca ρ s with
    | some (.ok _ _) => rfl
    | some (.exc _ _) => rfl
    | none => rfl
  dsimp only at hP
  rw [e] at hP
  refine (PX.bnd (R := RDs C.X.K) hP).mono fun vs H1 ⟨xs, m1, s1, t1, S, rx, q⟩ => ?_
  have hL : C.L ≤ s1.length := Nat.le_trans hR.base t1.slen
  match xs, rx, q with
  | [], _, q => exact (show False from q).elim
  | _ :: _ :: _, _, q => exact (show False from q).elim
  | [x], rx, q =>
    dsimp only at q
    obtain ⟨v, r, e1, r1, r2⟩ := rx
    obtain rfl : r = [] := r2
    subst e1
    split at q
    · rename_i xs e2
      obtain ⟨b, us, e3, h1, h2⟩ := seqOf_val S r1 e2
      subst e3
      refine ⟨b, us, rfl, h2, fun l hl => ?_⟩
      refine q (m1.add l) _ _ (Step.addNew hl hL) (S.addNew hl h1) ⟨l, rfl, ?_⟩
      show (m1.a ++ [l])[_]? = _
      rw [← S.len, List.getElem?_concat_length]
    · exact (show False from q).elim
end
end EV

set_option maxHeartbeats 1000000
/-! xs[k::2], xs.index(y) -/
namespace L2
open PySem PySem.Spec PyProof.Rows
theorem evenL_length {α : Type} : ∀ xs : List α, (EV.evenL xs).length = (xs.length + 1) / 2
  | [] => by simp [EV.evenL]
  | [x] => by simp [EV.evenL]
  | x :: y :: r => by
    rw [EV.evenL, List.length_cons, evenL_length r, List.length_cons, List.length_cons]
    omega
theorem evenL_pick {α : Type} (all : List α) : ∀ (xs : List α) (k : Nat), all.drop k = xs → ((List.range ((xs.length + 1) / 2)).map (fun j => k + 2 * j)).filterMap (all[·]?) = EV.evenL xs
  | [], k, _ => by simp [EV.evenL]
  | [x], k, h => by
    have e : all[k]? = some x := by rw [← List.head?_drop, h]; rfl
    simp [EV.evenL, List.range_succ_eq_map, e]
  | x :: y :: r, k, h => by
    have e : all[k]? = some x := by rw [← List.head?_drop, h]; rfl
    have e2 : all.drop (k + 2) = r := by rw [← List.drop_drop, h]; rfl
    have ih := evenL_pick all r (k + 2) e2
    have el : ((x :: y :: r).length + 1) / 2 = (r.length + 1) / 2 + 1 := by
      rw [List.length_cons, List.length_cons]
      omega
    rw [el, List.range_succ_eq_map, List.map_cons, List.map_map, EV.evenL, List.filterMap_cons, show k + 2 * 0 = k from rfl, e, ← ih]
    have eq : (List.range ((r.length + 1) / 2)).map ((fun j => k + 2 * j) ∘ Nat.succ) = (List.range ((r.length + 1) / 2)).map fun j => k + 2 + 2 * j := by
      apply List.map_congr_left
      intro j _
      show k + 2 * (j + 1) = k + 2 + 2 * j
      omega
    rw [eq]
theorem stp_pick (items : Array Value) (k : Nat) : slicePick items (some (k : Int)) none (some 2) = (EV.evenL (items.toList.drop k)).toArray := by
  unfold slicePick
  have hb : sliceBounds (some (k : Int)) none (some 2) items.size = (((min k items.size : Nat) : Int), (items.size : Int), 2) := by
    unfold sliceBounds
    have h1 : ((2 : Int) > 0) := by decide
    have h2 : ¬ ((k : Int) < 0) := by omega
    simp only [Option.getD_some, h1, if_true, h2, if_false]
    congr 1
    omega
  rw [hb]
  have hr : sliceRange ((min k items.size : Nat) : Int) (items.size : Int) 2 = (List.range (((items.toList.drop k).length + 1) / 2)).map (fun j => k + 2 * j) := by
    unfold sliceRange
    rw [List.length_drop, Array.length_toList]
    by_cases h : k < items.size
    · have e1 : min k items.size = k := by omega
      have h2 : ((k : Int) < (items.size : Int)) := by omega
      rw [e1]
      simp only [show ((2 : Int) > 0) from by decide, if_true, h2]
      have e2 : (((items.size : Int) - (k : Int) + 2 - 1) / 2).toNat = (items.size - k + 1) / 2 := by omega
      rw [e2]
      apply List.map_congr_left
      intro j _
      omega
    · have e1 : min k items.size = items.size := by omega
      rw [e1]
      have e2 : (items.size - k + 1) / 2 = 0 := by omega
      simp [e2]
  show ((sliceRange ((min k items.size : Nat) : Int) (items.size : Int) 2).filterMap (items[·]?)).toArray = _
  rw [hr]
  have e : (fun i : Nat => items[i]?) = fun i : Nat => items.toList[i]? := funext fun i => by simp
  rw [e, evenL_pick items.toList _ k rfl]
theorem Vals.evenL : ∀ {xs : List V} {us : List Value}, Vals xs us → Vals (EV.evenL xs) (EV.evenL us)
  | [], _, r => by
    cases r
    exact .nil
  | [x], _, r => by
    cases r with
    | cons h t =>
      cases t
      exact .cons h .nil
  | x :: y :: r, _, q => by
    cases q with
    | cons h t =>
      cases t with
      | cons h2 t2 => exact .cons h (Vals.evenL t2)
def tStp (K : PySem.W.Frag) (te : TE) (tl : TO) : TE := fun σ H Q => te σ H fun x H1 => tl σ H1 fun l H2 => ∃ a xs, ∃ k : Nat, x = .ref a ∧ l = some (k : Int) ∧ SqL K H2 a xs ∧ ∀ p, H2 p = none → Q (.ref p) (upd H2 p (.lst (EV.evenL (xs.drop k))))
theorem pe_stp {X : Cx} {e lo : Expr} {te : TE} {tl : TO} {k : Nat} {p1 p3 pos : Pos} (he : PE X e te) (hl : PO X (some lo) tl) : PE X (.Subscript e (.Slice (some lo) none (some (.Constant (.int 2) k p1)) p3) pos) (tStp X.K te tl) := by
  refine ⟨fun pins s σ H Q I h => ?_⟩
  refine Subscript_ (thn (he.run pins s σ H _ I h) fun v s1 ⟨x, H1, I1, r1, q1⟩ => ?_)
  have hst : PO X (some (.Constant (.int 2) k p1)) (tPart (tC (.int 2))) := po_some pe_int
  refine wpAny_Slice (thn (hl.run pins s1 σ H1 _ I1 q1) fun vl s2 ⟨l, H2, I2, pl, q2⟩ => ?_)
  obtain ⟨a, xs, n, ex, el, hx, q⟩ := q2
  subst ex el
  cases r1
  refine thn (po_none.run pins s2 σ H2 (fun o H3 => o = none ∧ H3 = H2) I2 ⟨rfl, rfl⟩) fun vu s3 ⟨u, H3, I3, pu, eu, e3⟩ => ?_
  subst eu e3
  refine thn (hst.run pins s3 σ H3 (fun o H4 => o = some 2 ∧ H4 = H3) I3 ⟨2, rfl, rfl, rfl⟩) fun vs s4 ⟨o, H4, I4, ps, eo, e4⟩ => ?_
  subst eo e4
  have I5 : Inv X pins σ H4 { s4 with heap := s4.heap.push { cls := .type "slice", data := .fields #[vl, vu, vs] } } := I4.kept (t' := s4.toks) fun b ob q => Heap.get?_push_of_some _ q
  obtain ⟨its, r, ht, hz⟩ := I5.list hx
  have hlen := r.length
  show wpAny (model X.prog X.w) X.A (subscriptTail e (.Slice (some lo) none (some (.Constant (.int 2) k p1)) p3) (.ref a) (.ref s4.heap.objs.size)) (EP X pins σ Q) X.xe { s4 with heap := s4.heap.push { cls := .type "slice", data := .fields #[vl, vu, vs] } }
  refine tail_any (ops := [.ref a, .ref s4.heap.objs.size]) ht.isList.typeIs (PySem.slot_list_getitem.lookup) ?_ (by with_unfolding_all rfl)
  refine wpAny_getItem_list_slice ht.isList (Heap.IsSliceOf.new _ vl vu vs) pl pu ps (by decide) ?_ (by rw [List.size_toArray]; omega)
  rw [stp_pick]
  refine ⟨.ref _, _, I5.laid (t' := s4.toks) (o := .lst (EV.evenL (xs.drop n))) (fun b ob q => Heap.get?_push_of_some _ q) (Nat.le_refl _) ?_, rfl, q _ (I5.hok.fresh (Nat.le_refl _))⟩
  refine ⟨by rw [evenL_length, List.length_drop]; omega, _, 0, Vals.evenL (r.drop n), Heap.get?_push_size _ rfl⟩
end L2
namespace EV
open PySem PySem.Spec PyProof.Rows L2
section
variable {C : Ct} {m m1 m2 : Pl} {H H1 H2 : Hp} {s s1 s2 : Sto} {ρ : Env} {σ : L2.St} {K : PySem.W.Frag} {L : Nat}
variable {a b c x y z : Expr} {ca cb cc : Env → Sto → Option (Out D)} {pos p : Pos}
theorem RDs.evenL : ∀ {xs : List D} {vs : List V}, RDs K m H xs vs → RDs K m H (EV.evenL xs) (EV.evenL vs)
  | [], _, r => by
    cases r
    exact (rfl : ([] : List V) = [])
  | [x], _, r => by
    obtain ⟨v, r', rfl, h1, h2⟩ := r
    cases h2
    exact ⟨v, [], rfl, h1, rfl⟩
  | x :: y :: r, _, q => by
    obtain ⟨v, r', rfl, h1, h2⟩ := q
    obtain ⟨v2, r2, rfl, h3, h4⟩ := h2
    exact ⟨v, _, rfl, h1, RDs.evenL h4⟩
theorem se_stp {lo : Expr} {k : Nat} {p1 p3 : Pos} (ha : SE C a ca) (hl : SE C lo cb) : SE C (.Subscript a (.Slice (some lo) none (some (.Constant (.int 2) k p1)) p3) pos) (fun ρ s => bnd (ca ρ s) fun x s1 => bnd (cb ρ s1) fun y s2 => pur s2 (stpD s2 x y)) := by
  refine PE.imp (pe_stp ha (po_some hl)) fun σ H Q h => ?_
  obtain ⟨ρ, m, s, hR, hP⟩ := two h
  refine ⟨ρ, m, s, hR, hP.mono fun v H1 ⟨ρ1, m1, s1, hR1, hP1⟩ => ⟨ρ1, m1, s1, hR1, hP1.mono fun u H2 ⟨x, y, m2, s2, S, rx, ry, q⟩ => ?_⟩⟩
  obtain ⟨d, e, q⟩ := q.pur
  unfold stpD at e
  split at e
  · rename_i xs i ex
    split at e
    · rename_i h0
      cases e
      obtain ⟨l, vs, e1, h1, r1⟩ := deref_lst S rx ex
      refine ⟨i, ry, l, vs, i.toNat, e1, by rw [Int.toNat_of_nonneg h0], SqL.of h1, fun p hp => q.fresh S hp ⟨p, _, rfl, S.no hp, upd_same, ?_⟩⟩
      exact RDs.later (.new hp) _ _ (RDs.evenL (r1.drop i.toNat))
    · cases e
  · cases e
theorem ixI_ok {i : Int} : ∀ {ns : List Int} {j : Nat}, ixI i ns = some j → ns[j]? = some i ∧ ∀ k, k < j → ∀ z, ns[k]? = some z → z ≠ i
  | [], j, h => by cases h
  | n :: r, j, h => by
    unfold ixI at h
    split at h
    · rename_i e
      cases h
      subst e
      exact ⟨rfl, fun k hk => absurd hk (Nat.not_lt_zero k)⟩
    · rename_i e
      obtain ⟨j', e1, e2⟩ := Option.map_eq_some_iff.mp h
      subst e2
      obtain ⟨h1, h2⟩ := ixI_ok e1
      refine ⟨h1, fun k hk z hz => ?_⟩
      cases k with
      | zero =>
        cases hz
        exact e
      | succ k => exact h2 k (by omega) z hz
theorem se_lix {q apos : Pos} (hst : isStar b = false) (hbase : attributeBase a "index" C.X.env (eval a C.X.env) = eval a C.X.env) (hline : (apos.endLine == q.line) = true) (ha : SE C a ca) (hb : SE C b cb) :
    SE C (.Call (.Attribute a "index" apos) [b] [] q) (fun ρ s => bnd (ca ρ s) fun x s1 => if isSq s1 x = true then bnd (cb ρ s1) fun y s2 => pur s2 (lixD s2 x y) else none) := by
  have base := pe_bm (cpos := q) PySem.F.plainAttrs_list PySem.F.slot_list_index PySem.F.type_list_index mt_index ha (pa_cons hb pa_nil (starEach_cons hst)) hbase (by rw [starEach_cons hst]; rfl) hline (starEach_cons hst) rfl
  refine PE.imp base fun σ H Q ⟨ρ, m, s, hR, hP⟩ => ?_
  refine ⟨ρ, m, s, hR, (PX.bnd (R := RD C.X.K) hP).mono fun v H1 ⟨x, m1, s1, t1, S1, rx, q⟩ => ?_⟩
  split at q
  · rename_i hl
    unfold isSq at hl
    split at hl
    · rename_i xs ex
      obtain ⟨l, vs, e1, h1, r1⟩ := deref_lst S1 rx ex
      subst e1
      refine ⟨.inl ⟨rfl, vs, SqL.of h1⟩, ρ, m1, s1, hR.step t1 S1, (PX.bnd (R := RD C.X.K) q).mono fun u H2 ⟨y, m2, s2, t2, S2, ry, q2⟩ => ?_⟩
      obtain ⟨d, e, q3⟩ := q2.pur
      unfold lixD at e
      split at e
      · rename_i ns i en
        obtain ⟨j, e1, e2⟩ := Option.map_eq_some_iff.mp e
        subst e2
        obtain ⟨b, e3, h3⟩ := intsD_val S2 (RD.later t2.later x _ rx) en
        cases e3
        have ry : u = .int i := ry
        subst ry
        obtain ⟨g1, g2⟩ := ixI_ok e1
        refine ⟨l, ns.map V.int, .int i, j, .int i, rfl, rfl, h3, rfl, List.all_eq_true.mpr fun z hz => ?_, by rw [List.getElem?_map, g1]; rfl, by show (i == i) = true; simp, fun k z' hk hz => ?_, q3.here S2 rfl⟩
        · obtain ⟨w, _, rfl⟩ := List.mem_map.mp hz
          rfl
        · rw [List.getElem?_map] at hz
          obtain ⟨w, hw, rfl⟩ := Option.map_eq_some_iff.mp hz
          have := g2 k hk w hw
          show (w == i) = false
          simpa using this
      · cases e
    · cases hl
  · exact (show False from q).elim
end
end EV

set_option maxHeartbeats 2000000
/-! _law_error(lambda a, b, c: .., ..) -/
namespace EV
open PySem PySem.Spec PyProof.Rows L2
def lamPar : Arguments → Bool
  | ⟨[], [⟨a, none, _⟩, ⟨b, none, _⟩, ⟨c, none, _⟩], none, [], [], none, []⟩ => decide (a = "a") && decide (b = "b") && decide (c = "c")
  | _ => false
def lamNs : List Str := ["a", "b", "c"]
def lamSc (sc : Scope) : Bool :=
  decide (sc.kind = .function) && !sc.isCoroutine && !sc.isGenerator && (sc.names.all fun y => !decide (y.2 = .free)) && lamNs.all fun x => decide (sc.names.lookup x = some .local)
theorem lamSc_ok {sc : Scope} (h : lamSc sc = true) : FnScope lamNs lamNs sc := by
  unfold lamSc at h
  simp only [Bool.and_eq_true, Bool.not_eq_true', decide_eq_true_eq, decide_eq_false_iff_not, List.all_eq_true] at h
  obtain ⟨⟨⟨⟨h1, h2⟩, h3⟩, h4⟩, h5⟩ := h
  exact ⟨h1, h2, h3, by decide, rfl, fun x hx => .inl (h5 x hx), fun y hy => h4 y hy⟩
theorem lam_bind {q : Str} {params : Arguments} {body : Expr} {sc : Scope} {pm cv ct u1 u2 u3 : Value} (h : lamPar params = true) :
    bindArgs (PySem.W.kla_fn "<lambda>" q params body sc [] pm cv ct) ⟨[u1, u2, u3], []⟩ = pure (lamNs.zip [u1, u2, u3]) := by
  unfold lamPar at h
  split at h
  · simp only [Bool.and_eq_true, decide_eq_true_eq] at h
    obtain ⟨⟨rfl, rfl⟩, rfl⟩ := h
    rfl
  · cases h
theorem lam_dfl {params : Arguments} {env : PySem.Env} (h : lamPar params = true) : defaultsOf params env = ([], []) := by
  unfold lamPar at h
  split at h
  · rfl
  · cases h
theorem lam_clo {cells : List (Str × Addr)} {sc : Scope} (S : FnScope lamNs lamNs sc) : cloFrom cells sc.names [] = [] := by
  match e : cloFrom cells sc.names [] with
  | [] => rfl
  | (n, c) :: r =>
    rcases cloFrom_mem (n := n) (c := c) (by rw [e]; exact List.mem_cons_self) with z | z
    · cases z
    · exact absurd rfl (S.nofree _ z.1)
abbrev lamO (q : Str) (params : Arguments) (body : Expr) (sc : Scope) (pm : Value) (c' : Addr) (ct : Value) : Obj := PySem.W.kla_obj "<lambda>" q params body sc [] pm c' ct
/-- what a caller must know of _law_error(lambda .., ..) -/
def FnL (CT : CTb) (C : Ct) (i : Nat) (params : Arguments) (body : Expr) (sc : Scope) : Prop :=
  ∃ (fe c P : Addr), C.X.mg "_law_error" = some (.ref fe) ∧ PySem.W.keepIn C.X.K (.ref fe) = true ∧ LamX.TabB C.X.base C.X.mg c P ∧ C.X.env.code = .ref c ∧ (P, C.X.env.qual ++ "<lambda>") ∈ tabsK C.X.K ∧
    (∀ p ∈ tabsK C.X.K, p.1 = P → p.2 = C.X.env.qual ++ "<lambda>") ∧
    ∀ (s : Shared) (H : Hp) (us : List Value) (vs : List V) (Q : VK) (E : XK) (f c' : Addr) (pm ct : Value), Env0 C.X.prog C.X.w C.X.K C.X.mg C.X.base C.X.A C.X.stack s H → s.heap.get? f = some (lamO (C.X.env.qual ++ "<lambda>") params body sc pm c' ct) →
      H f = none → f ∉ frs C.X.stack → H c' = some (LamX.CodeO c' (C.X.env.qual ++ "<lambda>")) → Vals vs us → spF C.X.K C.ca CT i vs H Q E →
      codeAny (model C.X.prog C.X.w) C.X.A (.call (.ref fe) ⟨.ref f :: us, []⟩) (CR (L2N.CX C.X.prog C.X.w) C.X.stack C.X.prog C.X.w H s Q E) s
section
variable {C : Ct} {m : Pl} {H H1 : Hp} {s : Sto} {K : PySem.W.Frag} {L : Nat}
theorem Later.tabs (eN : LamX.ExtN H H1) : Later m H m H1 := ⟨⟨[], by simp⟩, rfl, fun b o e n q => ⟨eN b o e fun ps z => q ps z, n⟩, fun b o e _ _ q => eN b o e fun ps z => q ps z⟩
theorem SRel.tabs (S : SRel K m s H) (eN : LamX.ExtN H H1) (T : LamX.Tabs (tabsK K) H1) : SRel K m s H1 := by
  refine ⟨S.len, S.nd, fun n c h => ?_, fun z hz => ?_, T⟩
  · obtain ⟨a, h1, h2⟩ := S.cell n c h
    refine ⟨a, h1, h2.later (Later.tabs eN) ?_⟩
    obtain ⟨o, q, z⟩ := S.held (List.mem_of_getElem? h1)
    rw [q]
    refine eN a o q fun ps e => ?_
    rcases z with ⟨_, z⟩ | ⟨_, z⟩ | ⟨_, _, _, z⟩ <;> rw [z] at e <;> cases e
  · obtain ⟨h1, xs, h2⟩ := S.hid z hz
    exact ⟨h1, xs, eN z _ h2 fun ps e => by cases e⟩
theorem se_errl {CT : CTb} {i : Nat} {params : Arguments} {body a : Expr} {es : List Expr} {sc : Scope} {p lpos pos : Pos} {cs : Env → Sto → Option (Out (List D))} (F : FnL CT C i params body sc) (tk : L2N.Takes C.X C.W) (hg : Gl C.X "_law_error") (hp : lamPar params = true) (hs : lamSc sc = true)
    (hst : (a :: es).any isStar = false) (h : SA C (a :: es) cs) : SE C (.Call (.Name "_law_error" p) (.Lambda params body sc lpos :: a :: es) [] pos) (fun ρ s => bnd (cs ρ s) fun xs s1 => CT i xs s1) := by
  obtain ⟨fe, c, P, hm, hk, TB, hcode, hT, hu, F⟩ := F
  have S := lamSc_ok hs
  refine ⟨fun pins s σ H Q I ⟨ρ, m, st, hR, hP⟩ => ?_⟩
  refine wpAny_Call_Name_kw (ld_glob I hg hm ?_ (by decide))
  refine PySem.W.callWith_K (h₀ := C.X.base) I.ok.mod.kin hk ?_ (starEach_cons rfl) (noStar_any hst)
  rw [starEach_cons rfl]
  show wpAny _ _ (spliced ((false, eval (.Lambda params body sc lpos) C.X.env) :: backTo pos (starEach (a :: es) C.X.env))) _ _ s
  refine Calls.spliced_cons (LamX.lam_make2 I TB hcode hT hu hR.sr.tab (lam_dfl hp) (fun y hy e => absurd e (S.nofree y hy)) fun f c' pm ct H1 s1 I1 eN T1 hf hfn hfr hco => ?_)
  rw [lam_clo S] at hf
  have fL : f ≠ C.X.env.locals := fun z => by
    obtain ⟨_, ⟨o, es', ep, e1, e2, _⟩, _⟩ := I1.loc
    rw [← z, hf] at e1
    cases e1
    cases e2
  have fS : f ∉ C.X.fs := fun z => hfr (by
    rcases I1.ok.stk with e | ⟨e, e'⟩
    · rw [e]
      exact z
    · rw [e]
      unfold frs
      rw [List.filterMap_cons, e']
      exact List.mem_cons_of_mem _ z)
  have I2 : Inv C.X ((f, lamO (C.X.env.qual ++ "<lambda>") params body sc pm c' ct) :: pins) σ H1 s1 := I1.pins_of fun q hq => by
    rcases List.mem_cons.mp hq with z | z
    · rw [z]
      exact ⟨hf, hfn, fL, fS, fun v e => by cases e⟩
    · exact I1.pin q (List.mem_append_right _ z)
  have t1 : Step C.L m st H m st H1 := ⟨Later.tabs eN, Nat.le_refl _, fun n _ c' h => ⟨c', h, fun d hd => .inr hd⟩⟩
  have R1 : Rel C m st H1 ρ σ := hR.step t1 (hR.sr.tabs eN T1)
  refine thn (h.run pos _ s1 σ H1 (fun vs H2 => H2 c' = some (LamX.CodeO c' (C.X.env.qual ++ "<lambda>")) ∧ spF C.X.K C.ca CT i vs H2 Q (WE C.W σ)) I2 ⟨ρ, m, st, R1, ?_⟩) fun us s2 ⟨vs, H2, I3, r, z1, z2⟩ => ?_
  · refine (PX.bnd (R := RDs C.X.K) (PX.step t1 hP)).mono fun vs H2 ⟨xs, m2, s2, t2, S2, rx, q⟩ => ⟨?_, C.L, m2, s2, xs, Nat.le_trans hR.base t2.slen, S2, rx, q⟩
    exact t2.later.hold _ _ hco (fun _ e => by unfold LamX.CodeO at e; cases e) ⟨fun _ e => (by unfold LamX.CodeO at e; cases e), fun _ _ _ e => (by unfold LamX.CodeO at e; cases e)⟩ (LamX.codeO_ne)
  · have pf := I3.pin (f, lamO (C.X.env.qual ++ "<lambda>") params body sc pm c' ct) (List.mem_append_right _ List.mem_cons_self)
    refine ⟨I3.kIn, wpAny_call (codeAny_mono (F s2 H2 us vs Q (WE C.W σ) f c' pm ct I3.env0 pf.1 pf.2.1 hfr z1 r z2) fun rr s' hq => ?_)⟩
    cases rr with
    | error e => exact L2N.passAt tk σ _ H2 s2 e s' I3 hq
    | ok fl =>
      cases fl with
      | ret u =>
        obtain ⟨v, H3, I4, rv, z⟩ := I3.after hq
        exact ⟨v, H3, I4.pins_of fun q hq => I4.pin q (by
          rcases List.mem_append.mp (List.mem_append_right C.X.pn hq) with w | w
          · exact List.mem_append_left _ w
          · exact List.mem_append_right _ (List.mem_cons_of_mem _ w)), rv, z⟩
      | next => exact hq.elim
      | brk => exact hq.elim
      | cont => exact hq.elim
end
end EV

/-! what loops walk, targets, comprehensions -/
namespace EV
open PySem PySem.Spec PyProof.Rows L2

/-- the iterator J yields what xs says -/
def RI (K : PySem.W.Frag) (m : Pl) (H : Hp) (xs : List D) (J : It) : Prop :=
  ∀ m' H', Mv m H m' H' → (∀ (i : Nat) (x : D), xs[i]? = some x → J.go i H' ∧ ∀ v H2, J.yld i H' v H2 → (∀ a o, H' a = some o → H2 a = some o) ∧ Later m' H' m' H2 ∧ RD K m' H2 x v) ∧ J.stop xs.length H'
abbrev SI (C : Ct) (tg x : Expr) (c : Env → Sto → Option (Out (List D))) : Prop := PI C.X tg x (tG C (RI C.X.K) c)
section
variable {C : Ct} {m m1 m2 : Pl} {H H1 H2 : Hp} {s s1 s2 : Sto} {ρ : Env} {σ : L2.St} {K : PySem.W.Frag} {L : Nat}
variable {a b c x y z tg : Expr} {ca cb cc : Env → Sto → Option (Out D)} {pos p : Pos} {es : List Expr} {cs : Env → Sto → Option (Out (List D))} {CT : CTb}
theorem ri_list {l : Addr} {xs : List D} {vs : List V} (h : H l = some (.lst vs)) (n : ¬ Tk m l) (r : RDs K m H xs vs) : RI K m H xs (Itl K l) := by
  intro m' H' lt
  obtain ⟨h', n'⟩ := lt.tk _ _ h n
  have r' := RDs.mv lt _ _ r
  refine ⟨fun i x hx => ?_, vs, SqL.of h', by rw [r.length]; exact Nat.le_refl _⟩
  obtain ⟨v, hv, rv⟩ := r'.get hx
  refine ⟨⟨vs, v, SqL.of h', hv⟩, fun w H2 ⟨e, q⟩ => ?_⟩
  subst e
  have := q vs (SqL.of h')
  rw [hv] at this
  cases this
  exact ⟨fun _ _ z => z, .refl, rv⟩
theorem ri_tup {l : Addr} {xs : List D} {vs : List V} (h : SqT K H l vs) (r : RDs K m H xs vs) : RI K m H xs (Itt K l) := by
  intro m' H' lt
  have h' := SqT.mv lt h
  have r' := RDs.mv lt _ _ r
  refine ⟨fun i x hx => ?_, vs, h', by rw [r.length]; exact Nat.le_refl _⟩
  obtain ⟨v, hv, rv⟩ := r'.get hx
  refine ⟨⟨vs, v, h', hv⟩, fun w H2 ⟨e, q⟩ => ?_⟩
  subst e
  have := q vs h'
  rw [hv] at this
  cases this
  exact ⟨fun _ _ z => z, .refl, rv⟩
theorem ri_rng (lo : Int) (n : Nat) : RI K m H ((List.range n).map fun i => D.int (lo + (i : Nat))) (Itr lo n) := by
  intro m' H' lt
  refine ⟨fun i x hx => ?_, by rw [List.length_map, List.length_range]; exact Nat.le_refl _⟩
  rw [List.getElem?_map] at hx
  by_cases hi : i < n
  · rw [List.getElem?_range hi] at hx
    have e : D.int (lo + (i : Nat)) = x := Option.some.inj hx
    subst e
    refine ⟨hi, fun w H2 ⟨e, q⟩ => ?_⟩
    subst e
    exact ⟨fun _ _ z => z, .refl, q⟩
  · rw [List.getElem?_eq_none (by rw [List.length_range]; omega)] at hx
    cases hx
theorem ri_rngC (lo c : Int) (n : Nat) : RI K m H (rngC lo c n) (Itc lo c n) := by
  intro m' H' lt
  unfold rngC
  refine ⟨fun i x hx => ?_, by rw [List.length_map, List.length_range]; exact Nat.le_refl _⟩
  rw [List.getElem?_map] at hx
  by_cases hi : i < n
  · rw [List.getElem?_range hi] at hx
    have e : D.int (lo + (i : Nat) * c) = x := Option.some.inj hx
    subst e
    refine ⟨hi, fun w H2 ⟨e, q⟩ => ?_⟩
    subst e
    exact ⟨fun _ _ z => z, .refl, q⟩
  · rw [List.getElem?_eq_none (by rw [List.length_range]; omega)] at hx
    cases hx
theorem enumL_get : ∀ (xs : List D) (k i : Nat), (enumL k xs)[i]? = (xs[i]?).map fun x => D.tup [.int ((k + i : Nat) : Int), x]
  | [], k, i => by simp [enumL]
  | x :: r, k, 0 => by simp [enumL]
  | x :: r, k, i + 1 => by
    show (enumL (k + 1) r)[i]? = _
    rw [enumL_get r (k + 1) i, List.getElem?_cons_succ, show k + 1 + i = k + (i + 1) from by omega]
theorem enumL_len : ∀ (xs : List D) (k : Nat), (enumL k xs).length = xs.length
  | [], k => rfl
  | x :: r, k => by
    show (enumL (k + 1) r).length + 1 = r.length + 1
    rw [enumL_len r]
theorem ri_enum {l : Addr} {xs : List D} {vs : List V} (h : H l = some (.lst vs)) (n : ¬ Tk m l) (r : RDs K m H xs vs) : RI K m H (enumL 0 xs) (Ite K l) := by
  intro m' H' lt
  obtain ⟨h', n'⟩ := lt.tk _ _ h n
  have r' := RDs.mv lt _ _ r
  refine ⟨fun i x hx => ?_, vs, SqL.of h', by rw [enumL_len, r.length]; exact Nat.le_refl _⟩
  rw [enumL_get] at hx
  obtain ⟨y, hy, e⟩ := Option.map_eq_some_iff.mp hx
  subst e
  obtain ⟨v, hv, rv⟩ := r'.get hy
  refine ⟨⟨vs, v, SqL.of h', hv⟩, fun w H2 ⟨T, u, e1, hT, e2, q⟩ => ?_⟩
  subst e1 e2
  have := q vs (SqL.of h')
  rw [hv] at this
  cases this
  refine ⟨fun a o z => by rw [upd_ne (ne_of_none z hT)]; exact z, .new hT, T, _, rfl, SqT.of upd_same, _, _, rfl, ?_, _, _, rfl, RD.later (.new hT) y v rv, rfl⟩
  show V.int (i : Nat) = .int ((0 + i : Nat) : Int)
  rw [Nat.zero_add]
theorem zipL_get : ∀ (xs ys : List D) (i : Nat) (z : D), (zipL xs ys)[i]? = some z → ∃ x y, xs[i]? = some x ∧ ys[i]? = some y ∧ z = .tup [x, y]
  | [], ys, i, z, h => by simp [zipL] at h
  | x :: r, [], i, z, h => by simp [zipL] at h
  | x :: r, y :: t, 0, z, h => by
    simp [zipL] at h
    exact ⟨x, y, rfl, rfl, h.symm⟩
  | x :: r, y :: t, i + 1, z, h => by
    have h' : (zipL r t)[i]? = some z := by simpa [zipL] using h
    obtain ⟨u, v, h1, h2, h3⟩ := zipL_get r t i z h'
    exact ⟨u, v, by simpa using h1, by simpa using h2, h3⟩
theorem zipL_len : ∀ (xs ys : List D), xs.length ≤ (zipL xs ys).length ∨ ys.length ≤ (zipL xs ys).length
  | [], ys => .inl (Nat.zero_le _)
  | x :: r, [] => .inr (Nat.zero_le _)
  | x :: r, y :: t => by
    show r.length + 1 ≤ (zipL r t).length + 1 ∨ t.length + 1 ≤ (zipL r t).length + 1
    rcases zipL_len r t with h | h
    · exact .inl (by omega)
    · exact .inr (by omega)
theorem zipL_min : ∀ xs ys : List D, (zipL xs ys).length = min xs.length ys.length
  | [], ys => by simp [zipL]
  | x :: r, [] => by simp [zipL]
  | x :: r, y :: t => by
    show (zipL r t).length + 1 = min (r.length + 1) (t.length + 1)
    rw [zipL_min r t]
    omega
theorem ri_zipM {l k : Addr} {xs ys : List D} {vs us : List V} (h : SqT K H l vs) (r : RDs K m H xs vs) (h2 : H k = some (.lst us)) (n2 : ¬ Tk m k) (r2 : RDs K m H ys us) : RI K m H (zipL xs ys) (ItzM K l k) := by
  intro m' H' lt
  have h' := SqT.mv lt h
  obtain ⟨h2', n2'⟩ := lt.tk _ _ h2 n2
  have r' := RDs.mv lt _ _ r
  have r2' := RDs.mv lt _ _ r2
  refine ⟨fun i x hx => ?_, vs, us, h', SqL.of h2', ?_⟩
  · obtain ⟨y, z, hy, hz, e⟩ := zipL_get _ _ _ _ hx
    subst e
    obtain ⟨v, hv, rv⟩ := r'.get hy
    obtain ⟨u, hu, ru⟩ := r2'.get hz
    refine ⟨⟨vs, us, v, u, h', SqL.of h2', hv, hu⟩, fun w H2 ⟨T, v', u', e1, hT, e2, q1, q2⟩ => ?_⟩
    subst e1 e2
    have t1 := q1 vs h'
    have t2 := q2 us (SqL.of h2')
    rw [hv] at t1
    rw [hu] at t2
    cases t1
    cases t2
    exact ⟨fun a o z => by rw [upd_ne (ne_of_none z hT)]; exact z, .new hT, T, _, rfl, SqT.of upd_same, _, _, rfl, RD.later (.new hT) y v rv, _, _, rfl, RD.later (.new hT) z u ru, rfl⟩
  · rw [← r.length, ← r2.length, zipL_min]
theorem ri_zip {l k : Addr} {xs ys : List D} {vs us : List V} (h : H l = some (.lst vs)) (n : ¬ Tk m l) (r : RDs K m H xs vs) (h2 : H k = some (.lst us)) (n2 : ¬ Tk m k) (r2 : RDs K m H ys us) : RI K m H (zipL xs ys) (Itz K l k) := by
  intro m' H' lt
  obtain ⟨h', n'⟩ := lt.tk _ _ h n
  obtain ⟨h2', n2'⟩ := lt.tk _ _ h2 n2
  have r' := RDs.mv lt _ _ r
  have r2' := RDs.mv lt _ _ r2
  refine ⟨fun i x hx => ?_, vs, us, SqL.of h', SqL.of h2', ?_⟩
  · obtain ⟨y, z, hy, hz, e⟩ := zipL_get _ _ _ _ hx
    subst e
    obtain ⟨v, hv, rv⟩ := r'.get hy
    obtain ⟨u, hu, ru⟩ := r2'.get hz
    refine ⟨⟨vs, us, v, u, SqL.of h', SqL.of h2', hv, hu⟩, fun w H2 ⟨T, v', u', e1, hT, e2, q1, q2⟩ => ?_⟩
    subst e1 e2
    have t1 := q1 vs (SqL.of h')
    have t2 := q2 us (SqL.of h2')
    rw [hv] at t1
    rw [hu] at t2
    cases t1
    cases t2
    exact ⟨fun a o z => by rw [upd_ne (ne_of_none z hT)]; exact z, .new hT, T, _, rfl, SqT.of upd_same, _, _, rfl, RD.later (.new hT) y v rv, _, _, rfl, RD.later (.new hT) z u ru, rfl⟩
  · rw [← r.length, ← r2.length]
    exact zipL_len xs ys

theorem si_list (ha : SE C a ca) : SI C tg a (fun ρ s => bnd (ca ρ s) fun x s1 => match x with
    | .lst xs => some (.ok xs s1)
    | _ => none) := by
  refine PI.imp (pi_list ha) fun σ H Q h => ?_
  obtain ⟨ρ, m, s, hR, hP⟩ := one h
  refine ⟨ρ, m, s, hR, hP.mono fun v H1 ⟨x, m1, s1, S, rx, q⟩ => ?_⟩
  cases x with
  | lst xs =>
    obtain ⟨l, vs, e, n, hl, r⟩ := rx
    exact ⟨l, e, ⟨vs, SqL.of hl⟩, q.here S (ri_list hl n r)⟩
  | _ => exact (show False from q).elim
/-- a list or a tuple is walked: at the level of values -/
theorem PI.either {X : Cx} {tg a : Expr} {ta : TE} (ha : PE X a ta) : PI X tg a (fun σ H R => ta σ H fun x H1 => ∃ l, x = .ref l ∧ (((∃ xs, SqL X.K H1 l xs) ∧ R (Itl X.K l) H1) ∨ ((∃ xs, SqT X.K H1 l xs) ∧ R (Itt X.K l) H1))) := by
  refine ⟨fun pins s σ H R I h => ?_⟩
  refine thn (ha.run pins s σ H _ I h) fun v s1 ⟨x, H1, I1, r1, l, e, q⟩ => ?_
  subst e
  have hv : v = Value.ref l := r1
  subst hv
  -- a plain expression with the value at hand
  rcases q with ⟨hx, q⟩ | ⟨hx, q⟩
  · obtain ⟨xs, hq⟩ := hx
    obtain ⟨its, rv, p, hz⟩ := I1.list hq
    refine wpAny_pyIter_list p.isList ?_
    refine ⟨s1.heap.objs.size, [s1.heap.objs.size], _, _, H1, rfl, I1.kept (t' := s1.toks) fun b o e => Heap.get?_push_of_some _ e, turn_list l _, ⟨_, Heap.get?_push_size _ rfl, rfl, rfl⟩, fun b hb => ?_, q⟩
    have e : b = s1.heap.objs.size := by simpa using hb
    subst e
    exact I1.fpOk (Nat.le_refl _) (I1.hok.fresh (Nat.le_refl _))
  · obtain ⟨xs, hq⟩ := hx
    obtain ⟨its, rv, p, hz⟩ := I1.tuple hq
    refine wpAny_pyIter_tuple (show s1.heap.IsTuple l its.toArray from p) ?_
    refine ⟨s1.heap.objs.size, [s1.heap.objs.size], _, _, H1, rfl, I1.kept (t' := s1.toks) fun b o e => Heap.get?_push_of_some _ e, turn_tuple l _, ⟨_, Heap.get?_push_size _ rfl, rfl, rfl⟩, fun b hb => ?_, q⟩
    have e : b = s1.heap.objs.size := by simpa using hb
    subst e
    exact I1.fpOk (Nat.le_refl _) (I1.hok.fresh (Nat.le_refl _))
theorem si_it (ha : SE C a ca) : SI C tg a (fun ρ s => bnd (ca ρ s) fun x s1 => match x with
    | .tup xs => some (.ok xs s1)
    | .lst xs => some (.ok xs s1)
    | _ => none) := by
  refine PI.imp (PI.either ha) fun σ H Q h => ?_
  obtain ⟨ρ, m, s, hR, hP⟩ := one h
  refine ⟨ρ, m, s, hR, hP.mono fun v H1 ⟨x, m1, s1, S, rx, q⟩ => ?_⟩
  cases x with
  | lst xs =>
    obtain ⟨l, vs, e, n, hl, r⟩ := rx
    exact ⟨l, e, .inl ⟨⟨vs, SqL.of hl⟩, q.here S (ri_list hl n r)⟩⟩
  | tup xs =>
    obtain ⟨l, vs, e, hl, r⟩ := rx
    exact ⟨l, e, .inr ⟨⟨vs, hl⟩, q.here S (ri_tup hl r)⟩⟩
  | _ => exact (show False from q).elim
theorem starEach1 (h : isStar a = false) {env : PySem.Env} : starEach [a] env = [(false, eval a env)] := starEach_cons h
theorem si_rng1 {q : Pos} (hg : Gl C.X "range") (hm : C.X.mg "range" = none) (hst : isStar a = false) (ha : SE C a ca) : SI C tg (.Call (.Name "range" p) [a] [] q) (fun ρ s => bnd (ca ρ s) fun x s1 => match x with
    | .int j => if small62 j then some (.ok (rngL 0 j) s1) else none
    | _ => none) := by
  refine PI.imp (pi_range1 hg hm (pa_cons ha pa_nil (starEach_cons hst)) (starEach1 hst)) fun σ H Q h => ?_
  obtain ⟨ρ, m, s, hR, hP⟩ := one h
  refine ⟨ρ, m, s, hR, hP.mono fun v H1 ⟨x, m1, s1, S, rx, q⟩ => ?_⟩
  cases x with
  | int j =>
    have q : P C (RI C.X.K) σ m1 s1 H1 (if small62 j then some (.ok (rngL 0 j) s1) else none) Q := q
    split at q
    · rename_i hz
      refine ⟨j, by rw [show v = .int j from rx], hz.1, hz.2, q.here S ?_⟩
      have h := ri_rng (K := C.X.K) (m := m1) (H := H1) 0 j.toNat
      unfold rngL
      rw [Int.sub_zero]
      exact h
    · exact q.elim
  | _ => exact (show False from q).elim
theorem si_rng2 {q : Pos} (hg : Gl C.X "range") (hm : C.X.mg "range" = none) (hst : isStar a = false) (hst2 : isStar b = false) (ha : SE C a ca) (hb : SE C b cb) : SI C tg (.Call (.Name "range" p) [a, b] [] q) (fun ρ s => bnd (ca ρ s) fun x s1 => bnd (cb ρ s1) fun y s2 => match x, y with
    | .int i, .int j => if small62 i ∧ small62 j then some (.ok (rngL i j) s2) else none
    | _, _ => none) := by
  refine PI.imp (pi_range2 hg hm (pa_cons ha (pa_cons hb pa_nil (starEach_cons hst2)) (starEach_cons hst)) (by rw [starEach_cons hst, starEach1 hst2]) (starEach1 hst2)) fun σ H Q h => ?_
  obtain ⟨ρ, m, s, hR, hP⟩ := two h
  refine ⟨ρ, m, s, hR, hP.mono fun v H1 ⟨ρ1, m1, s1, hR1, hP1⟩ => ⟨ρ1, m1, s1, hR1, hP1.mono fun u H2 ⟨x, y, m2, s2, S, rx, ry, q⟩ => ?_⟩⟩
  split at q
  · rename_i i j
    split at q
    · rename_i hz
      exact ⟨i, j, by rw [show v = .int i from rx, show u = .int j from ry], ⟨hz.1.1, hz.1.2, hz.2.1, hz.2.2⟩, q.here S (ri_rng i (j - i).toNat)⟩
    · exact (show False from q).elim
  · exact (show False from q).elim
theorem si_rng3 {q : Pos} (hg : Gl C.X "range") (hm : C.X.mg "range" = none) (hst : isStar a = false) (hst2 : isStar b = false) (hst3 : isStar c = false) (ha : SE C a ca) (hb : SE C b cb) (hc : SE C c cc) :
    SI C tg (.Call (.Name "range" p) [a, b, c] [] q) (fun ρ s => bnd (ca ρ s) fun x s1 => bnd (cb ρ s1) fun y s2 => bnd (cc ρ s2) fun z s3 => match x, y, z with
    | .int i, .int j, .int k => if small62 i ∧ small62 j ∧ k = -1 then some (.ok (rngC i (-1) (i - j).toNat) s3) else none
    | _, _, _ => none) := by
  refine PI.imp (pi_range3 hg hm (pa_cons ha (pa_cons hb (pa_cons hc pa_nil (starEach_cons hst3)) (starEach_cons hst2)) (starEach_cons hst)) (by rw [starEach_cons hst, starEach_cons hst2]) (by rw [starEach_cons hst2, starEach_cons hst3]; rfl)) fun σ H Q ⟨ρ, m, s, hR, hP⟩ => ?_
  refine ⟨ρ, m, s, hR, (PX.bnd (R := RD C.X.K) hP).mono fun v H1 ⟨x, m1, s1, t1, S1, rx, hP1⟩ => ?_⟩
  refine ⟨ρ, m1, s1, hR.step t1 S1, (PX.bnd (R := RD C.X.K) hP1).mono fun u H2 ⟨y, m2, s2, t2, S2, ry, hP2⟩ => ?_⟩
  refine ⟨ρ, m2, s2, (hR.step t1 S1).step t2 S2, (PX.bnd (R := RD C.X.K) hP2).mono fun w H3 ⟨z, m3, s3, t3, S3, rz, q⟩ => ?_⟩
  cases x with
  | int i =>
    cases y with
    | int j =>
      cases z with
      | int k =>
        have q' : P C (RI C.X.K) σ m3 s3 H3 (if small62 i ∧ small62 j ∧ k = -1 then some (.ok (rngC i (-1) (i - j).toNat) s3) else none) Q := q
        split at q'
        · rename_i hz
          obtain ⟨z1, z2, z3⟩ := hz
          subst z3
          exact ⟨i, j, -1, (i - j).toNat, by rw [show v = .int i from rx, show u = .int j from ry, show w = .int (-1) from rz], RgC.neg z1.1 z1.2 z2.1 z2.2, q'.here S3 (ri_rngC i (-1) _)⟩
        · exact q'.elim
      | _ => exact (show False from q).elim
    | _ => exact (show False from q).elim
  | _ => exact (show False from q).elim
theorem si_enum {q tpos : Pos} {elts : List Expr} {kk : Nat} (hg : Gl C.X "enumerate") (hm : C.X.mg "enumerate" = none) (hst : isStar a = false) (ha : SE C a ca) :
    SI C (.Tuple elts kk tpos) (.Call (.Name "enumerate" p) [a] [] q) (fun ρ s => bnd (ca ρ s) fun x s1 => match x with
    | .lst xs => some (.ok (enumL 0 xs) s1)
    | _ => none) := by
  refine PI.imp (pi_enum hg hm (pa_cons ha pa_nil (starEach_cons hst)) (starEach1 hst)) fun σ H Q h => ?_
  obtain ⟨ρ, m, s, hR, hP⟩ := one h
  refine ⟨ρ, m, s, hR, hP.mono fun v H1 ⟨x, m1, s1, S, rx, q⟩ => ?_⟩
  cases x with
  | lst xs =>
    obtain ⟨l, vs, e, n, hl, r⟩ := rx
    exact ⟨l, vs, by rw [e], SqL.of hl, q.here S (ri_enum hl n r)⟩
  | _ => exact (show False from q).elim
theorem si_zip {q tpos : Pos} {elts : List Expr} {kk : Nat} (hg : Gl C.X "zip") (hm : C.X.mg "zip" = none) (hst : isStar a = false) (hst2 : isStar b = false) (ha : SE C a ca) (hb : SE C b cb) :
    SI C (.Tuple elts kk tpos) (.Call (.Name "zip" p) [a, b] [] q) (fun ρ s => bnd (ca ρ s) fun x s1 => bnd (cb ρ s1) fun y s2 => match x, y with
    | .lst xs, .lst ys => some (.ok (zipL xs ys) s2)
    | .tup xs, .lst ys => some (.ok (zipL xs ys) s2)
    | _, _ => none) := by
  refine PI.imp (pi_zipM hg hm (pa_cons ha (pa_cons hb pa_nil (starEach_cons hst2)) (starEach_cons hst)) (starEach_cons hst) (by rw [starEach1 hst2]; rfl)) fun σ H Q h => ?_
  obtain ⟨ρ, m, s, hR, hP⟩ := two h
  refine ⟨ρ, m, s, hR, hP.mono fun v H1 ⟨ρ1, m1, s1, hR1, hP1⟩ => ⟨ρ1, m1, s1, hR1, hP1.mono fun u H2 ⟨x, y, m2, s2, S, rx, ry, q⟩ => ?_⟩⟩
  split at q
  · rename_i xs ys
    obtain ⟨l, vs, e, n, hl, r⟩ := rx
    obtain ⟨k, us, e2, n2, hk, r2⟩ := ry
    exact ⟨l, k, vs, us, by rw [e, e2], .inl ⟨SqL.of hl, SqL.of hk, q.here S (ri_zip hl n r hk n2 r2)⟩⟩
  · rename_i xs ys
    obtain ⟨l, vs, e, hl, r⟩ := rx
    obtain ⟨k, us, e2, n2, hk, r2⟩ := ry
    exact ⟨l, k, vs, us, by rw [e, e2], .inr ⟨hl, SqL.of hk, q.here S (ri_zipM hl r hk n2 r2)⟩⟩
  · exact (show False from q).elim

/-! ### targets -/
mutual
def slots : E → List Nat
  | .tnm i => [i]
  | .ttp es => slotss es
  | _ => []
def slotss : E → List Nat
  | .cons a b => slots a ++ slotss b
  | _ => []
end
/-- the same but at the slots l -/
def Out' (l : List Nat) (σ σ' : L2.St) : Prop := σ'.length = σ.length ∧ ∀ i : Nat, i ∉ l → σ'[i]? = σ[i]?
theorem Out'.refl {l : List Nat} : Out' l σ σ := ⟨rfl, fun _ _ => rfl⟩
theorem Out'.trans {l l' : List Nat} {σ1 σ2 : L2.St} (a : Out' l σ σ1) (b : Out' l' σ1 σ2) : Out' (l ++ l') σ σ2 :=
  ⟨b.1.trans a.1, fun i h => (b.2 i fun z => h (List.mem_append_right _ z)).trans (a.2 i fun z => h (List.mem_append_left _ z))⟩
/-- the reading of a target -/
def tT (K : PySem.W.Frag) (L : Nat) (t : E) : TG := fun v σ H Q => ∃ ρ m s d ρ', Rel' K L m s H ρ σ ∧ RD K m H d v ∧ bindT t d ρ = some ρ' ∧ ∀ σ', Rel' K L m s H ρ' σ' → Out' (slots t) σ σ' → Q σ' H
def tTs (K : PySem.W.Frag) (L : Nat) (t : E) : TGs := fun vs σ H Q => ∃ ρ m s ds ρ', Rel' K L m s H ρ σ ∧ RDs K m H ds vs ∧ bindTs t ds ρ = some ρ' ∧ ∀ σ', Rel' K L m s H ρ' σ' → Out' (slotss t) σ σ' → Q σ' H
theorem PG.imp {X : Cx} {e : Expr} {t t' : TG} (h : PG X e t) (f : ∀ v σ H Q, t' v σ H Q → t v σ H Q) : PG X e t' := ⟨fun pins s σ H v u Q I r q => h.run pins s σ H v u Q I r (f _ _ _ _ q)⟩
theorem PGs.imp {X : Cx} {e : List Expr} {t t' : TGs} (h : PGs X e t) (f : ∀ v σ H Q, t' v σ H Q → t v σ H Q) : PGs X e t' := ⟨fun pins s σ H v u Q I r q => h.run pins s σ H v u Q I r (f _ _ _ _ q)⟩
theorem sg_name {i : Nat} {n : Str} (hN : C.X.N.Nodup) (hi : C.X.N[i]? = some n) (hx : Loc C.X.env.scope n) (hf : C.X.fn n = true ∨ C.X.env.scope.names.lookup n = some .local) : PG C.X (.Name n pos) (tT C.X.K C.L (.tnm i)) := by
  refine PG.imp (pg_name hN hi hx hf) fun v σ H Q ⟨ρ, m, s, d, ρ', hR, rd, e, q⟩ => ?_
  cases e
  refine q _ (Rel'.set (C := C) hR i rd) ⟨by rw [List.length_set], fun j hj => ?_⟩
  rw [List.getElem?_set_ne (fun z => hj (by rw [z]; exact List.mem_singleton.mpr rfl))]
theorem assignEach_cons {e : Expr} {r : List Expr} {env : PySem.Env} (h : isStar e = false) : assignEach (e :: r) env = (false, assign e env) :: assignEach r env := by
  cases e <;> first | rfl | cases h
theorem assignEach_len {env : PySem.Env} : ∀ {r : List Expr}, r.any isStar = false → (assignEach r env).length = r.length ∧ (assignEach r env).findIdx? (·.1) = none
  | [], _ => ⟨rfl, rfl⟩
  | e :: r, h => by
    rw [List.any_cons, Bool.or_eq_false_iff] at h
    obtain ⟨h1, h2⟩ := assignEach_len (env := env) h.2
    rw [assignEach_cons h.1]
    refine ⟨by rw [List.length_cons, h1, List.length_cons], ?_⟩
    rw [List.findIdx?_cons, h2]
    rfl
theorem sgs_nil : PGs C.X [] (tTs C.X.K C.L .nil) := by
  refine PGs.imp pgs_nil fun vs σ H Q ⟨ρ, m, s, ds, ρ', hR, rd, e, q⟩ => ?_
  cases ds with
  | nil =>
    cases e
    exact ⟨rd, q σ hR .refl⟩
  | cons x xs => cases e
theorem sgs_cons {e : Expr} {t u : E} (hst : isStar e = false) (h1 : PG C.X e (tT C.X.K C.L t)) (h2 : PGs C.X es (tTs C.X.K C.L u)) : PGs C.X (e :: es) (tTs C.X.K C.L (.cons t u)) := by
  refine PGs.imp (pgs_cons h1 h2 (by rw [assignEach_cons hst]; rfl)) fun vs σ H Q ⟨ρ, m, s, ds, ρ', hR, rd, e, q⟩ => ?_
  cases ds with
  | nil => cases e
  | cons x xs =>
    obtain ⟨v, r, e1, rv, rr⟩ := rd
    have e : (match bindT t x ρ with | some ρ' => bindTs u xs ρ' | none => none) = some ρ' := e
    split at e
    · rename_i ρ1 e2
      refine ⟨v, r, e1, ρ, m, s, x, ρ1, hR, rv, e2, fun σ1 hR1 o1 => ?_⟩
      exact ⟨ρ1, m, s, xs, ρ', hR1, rr, e, fun σ2 hR2 o2 => q σ2 hR2 (o1.trans o2)⟩
    · cases e
theorem bindTs_len : ∀ {t : E} {ds : List D} {ρ ρ' : Env}, bindTs t ds ρ = some ρ' → True := fun _ => True.intro
theorem sg_tup {k : Nat} {t : E} (hc : C.X.calm = true) (hst : es.any isStar = false) (h : PGs C.X es (tTs C.X.K C.L t)) (hl : ∀ (ds : List D) (ρ ρ' : Env), bindTs t ds ρ = some ρ' → ds.length = es.length) : PG C.X (.Tuple es k pos) (tT C.X.K C.L (.ttp t)) := by
  obtain ⟨h1, h2⟩ := assignEach_len (env := C.X.env) hst
  have both : PG C.X (.Tuple es k pos) (fun v σ H Q => gTup C.X.K es.length (tTs C.X.K C.L t) v σ H Q ∨ gUnl C.X.K es.length (tTs C.X.K C.L t) v σ H Q) :=
    ⟨fun pins s σ H v u Q I r q => q.elim (fun q => (pg_tup hc h h1 h2).run pins s σ H v u Q I r q) fun q => (pg_unl hc h h1 h2).run pins s σ H v u Q I r q⟩
  refine PG.imp both fun v σ H Q ⟨ρ, m, s, d, ρ', hR, rd, e, q⟩ => ?_
  cases d with
  | tup xs =>
    obtain ⟨a, vs, e1, hs, r⟩ := rd
    exact .inl ⟨a, vs, e1, hs, by rw [← r.length]; exact hl xs ρ ρ' e, ρ, m, s, xs, ρ', hR, r, e, q⟩
  | lst xs =>
    obtain ⟨a, vs, e1, _, hs, r⟩ := rd
    exact .inr ⟨a, vs, e1, SqL.of hs, by rw [← r.length]; exact hl xs ρ ρ' e, ρ, m, s, xs, ρ', hR, r, e, q⟩
  | _ => cases e
end
end EV

set_option maxHeartbeats 2000000
/-! generators: what a consumer may change while a generator sleeps; statements of a generator's body -/
namespace EV
open PySem PySem.Spec PyProof.Rows L2 GenW
/-- a dict of names -/
def NsO (o : Obj) : Prop := ∃ es ep, o.data = .dict es ep ∧ StrKeys es
theorem NsO.ns {h : Heap} {a : Addr} {o : Obj} (n : NsO o) (e : h.get? a = some o) : ∃ m, h.Ns a m := by
  obtain ⟨es, ep, d, k⟩ := n
  exact ⟨_, o, es, ep, e, d, k, fun _ => rfl⟩
theorem nsO_of {h : Heap} {a : Addr} {m : Str → Option Value} (n : h.Ns a m) : ∃ o, h.get? a = some o ∧ NsO o := by
  obtain ⟨o, es, ep, e, d, k, _⟩ := n
  exact ⟨o, e, es, ep, d, k⟩
/-- the consumer: S is its list, Lx its dicts of names; v is put behind S -/
structure Slp (S : Addr) (Lx : List Addr) (v : Value) (s s' : Shared) : Prop where
  os : s'.os = s.os
  bare : AllBare s'.gens
  keep : ∀ b o, b ≠ S → b ∉ Lx → s.heap.get? b = some o → s'.heap.get? b = some o
  own : ∀ acc c, s.heap.get? S = some (lstObj acc c) → ∃ c', s'.heap.get? S = some (lstObj (acc.push v) c')
  nsx : ∀ b ∈ Lx, (∃ o, s.heap.get? b = some o ∧ NsO o) → ∃ o, s'.heap.get? b = some o ∧ NsO o
/-- the consumer's things are younger than the generator's call and none of its frame's -/
structure Apr (X : Cx) (S : Addr) (Lx : List Addr) : Prop where
  at_ : ∀ b ∈ S :: Lx, X.s_0.heap.objs.size ≤ b ∧ b ≠ X.env.locals ∧ (∀ x c, X.env.cells.lookup x = some c → c ≠ b) ∧ ∀ p ∈ X.pn, p.1 ≠ b
  out : S ∉ Lx
/-- the generator's code runs: ys is out -/
def GIx (X : Cx) (S : Addr) (Lx : List Addr) (ip : List (Addr × Obj)) (ys : List V) (σ : L2.St) (H : Hp) (s : Shared) : Prop :=
  ∃ (acc : Array Value) (c : Nat) (os : List (Addr × Obj)), (∀ p ∈ os, p.1 ∈ Lx) ∧ (∀ b ∈ Lx, ∃ o, (b, o) ∈ os ∧ NsO o) ∧ Vals ys acc.toList ∧ Inv X (((S, lstObj acc c) :: os) ++ ip) σ H s
section
variable {X : Cx} {S : Addr} {Lx : List Addr} {ip : List (Addr × Obj)} {ys : List V} {x : V} {v : Value} {σ : L2.St} {H : Hp} {s s' : Shared}
theorem GIx.list (h : GIx X S Lx ip ys σ H s) : ∃ (acc : Array Value) (c : Nat), Vals ys acc.toList ∧ s.heap.get? S = some (lstObj acc c) ∧ H S = none ∧ S ≠ X.env.locals ∧ S ∉ X.fs := by
  obtain ⟨acc, c, os, _, _, r, I⟩ := h
  obtain ⟨h1, h2, h3, h4, _⟩ := I.pin (S, lstObj acc c) (List.mem_append_right _ (List.mem_append_left _ List.mem_cons_self))
  exact ⟨acc, c, r, h1, h2, h3, h4⟩
theorem GIx.dicts (h : GIx X S Lx ip ys σ H s) : ∀ b ∈ Lx, H b = none ∧ b ≠ X.env.locals ∧ b ∉ X.fs ∧ ∃ o, s.heap.get? b = some o ∧ NsO o := fun b hb => by
  obtain ⟨acc, c, os, o1, o2, r, I⟩ := h
  obtain ⟨o, ho, no⟩ := o2 b hb
  obtain ⟨h1, h2, h3, h4, _⟩ := I.pin (b, o) (List.mem_append_right _ (List.mem_append_left _ (List.mem_cons_of_mem _ ho)))
  exact ⟨h2, h3, h4, o, h1, no⟩
theorem GIx.inv (h : GIx X S Lx ip ys σ H s) : Inv X ip σ H s := by
  obtain ⟨acc, c, os, _, _, _, I⟩ := h
  exact I.pins_of fun p hp => I.pin p (List.mem_append_right _ (List.mem_append_right _ hp))
theorem GIx.unpin (h : GIx X S Lx ip ys σ H s) : GIx X S Lx [] ys σ H s := by
  obtain ⟨acc, c, os, o1, o2, r, I⟩ := h
  refine ⟨acc, c, os, o1, o2, r, ?_⟩
  rw [List.append_nil]
  exact I.unpinned
theorem GIx.woken (hip : ∀ p ∈ ip, p.1 ∉ S :: Lx) (hA : Apr X S Lx) (h : GIx X S Lx ip ys σ H s) (rv : RelV x v) (z : Slp S Lx v s s') : GIx X S Lx ip (ys ++ [x]) σ H s' := by
  obtain ⟨acc, c, r, eS, S0, SL, Sf⟩ := h.list
  have dd := h.dicts
  have I0 := h.inv
  obtain ⟨z1, z2, z3, z4, z5⟩ := z
  obtain ⟨c', eS'⟩ := z4 acc c eS
  have un : ∀ b ∈ S :: Lx, H b = none := fun b hb => by
    rcases List.mem_cons.mp hb with e | hb
    · rw [e]
      exact S0
    · exact (dd b hb).1
  obtain ⟨hh, gg, dr, tk, oo⟩ := s'
  have ho : oo = s.os := z1
  subst ho
  have k3 : ∀ b ob, b ∉ S :: Lx → s.heap.get? b = some ob → hh.get? b = some ob := fun b ob hb e => z3 b ob (fun q => hb (by rw [q]; exact List.mem_cons_self)) (fun q => hb (List.mem_cons_of_mem _ q)) e
  have J : Inv X ip σ H { s with heap := hh, gens := gg, drawn := dr, toks := tk } := by
    refine I0.step (g' := gg) (t' := tk) (d' := dr) (ch := S :: Lx) (fun b hb => ?_) (fun b ob _ _ hc e _ => k3 b ob hc e) (fun b ob _ _ hc e _ => ⟨ob.slots, k3 b ob hc e⟩) (fun _ _ _ _ n => n) (fun b ob hc e => ⟨ob, k3 b ob hc e⟩)
      (fun _ _ e => e) (fun _ _ _ e => e) (fun b ps e => ⟨#[], by rw [e]; simp⟩) (fun m hm => ?_) (fun b u e => ?_) z2
    · obtain ⟨y1, y2, y3, y4⟩ := hA.at_ b hb
      refine ⟨.inr y1, y2, y3, fun p hp => ?_⟩
      rcases List.mem_append.mp hp with hp | hp
      · exact y4 p hp
      · exact fun q => hip p hp (by rw [q]; exact hb)
    · obtain ⟨o, es, ep, e, r⟩ := hm
      refine ⟨o, es, ep, k3 _ o (fun q => ?_) e, r⟩
      obtain ⟨_, y2, _⟩ := hA.at_ _ q
      exact y2 rfl
    · refine (I0.hok b u e).stay (fun d w hd y => k3 d w (fun q => ?_) y) (fun _ y => y) fun _ _ y => y
      have n := un d q
      rcases hd with y | y
      · rw [y] at n
        rw [n] at e
        cases e
      · rw [n] at y
        cases y
  refine ⟨acc.push v, c', pinsAt Lx hh, fun p hp => (of_pinsAt hp).1, fun b hb => ?_, ?_, J.pins_of fun p hp => ?_⟩
  · obtain ⟨o, e, no⟩ := z5 b hb (dd b hb).2.2.2
    exact ⟨o, mem_pinsAt hb e, no⟩
  · rw [Array.toList_push]
    exact r.append (.cons rv .nil)
  · rcases List.mem_append.mp hp with hp | hp
    · rcases List.mem_cons.mp hp with hp | hp
      · rw [hp]
        exact ⟨eS', S0, SL, Sf, fun w q => by cases q⟩
      · obtain ⟨hb, e⟩ := of_pinsAt hp
        obtain ⟨d1, d2, d3, d4⟩ := dd _ hb
        obtain ⟨o, e2, es, ep, no, _⟩ := z5 _ hb d4
        have eo : p.2 = o := Option.some.inj (e.symm.trans e2)
        exact ⟨e, d1, d2, d3, fun w q => by rw [eo, no] at q; cases q⟩
    · exact J.pin p (List.mem_append_right _ hp)
/-- an item is handed out -/
def GYx (X : Cx) (S : Addr) (Lx : List Addr) : Protocol := fun n s₀ v s kap =>
  ∃ ys x ip σ H, n + 1 + ys.length = sizeLine ∧ RelV x v ∧ GIx X S Lx ip ys σ H s ∧ ∀ s', Slp S Lx v s s' → kap (.send .none) s'
/-- what is wanted at the end: of all that is out -/
abbrev TGx := (List V → L2.St → Hp → Prop) → List V → L2.St → Hp → Prop
structure GCx (X : Cx) (S : Addr) (Lx : List Addr) (A : Around) (c : Code) (fs : List Frame) (gd : Bool → Bool) : Prop where
  apart : Apr X S Lx
  over : A.over c fs = X.A
  split : splitAtGen fs = none
  guard : fs.any Frame.guarded = false
  gd : gd false = false
/-- statements of a generator's body; nothing is raised -/
structure GSx (X : Cx) (st : List Stmt) (t : TGx) : Prop where
  run : ∀ (A : Around) (S : Addr) (Lx : List Addr) (R : GenEnd) (n : Nat) (ys : List V) (s₀ : Shared) (c : Code) (fs : List Frame) (K : Flow → Sem PySem.Fin) (J : Value → Sem PySem.Fin) (gd : Bool → Bool) (lv : List Value → List Value) (s : Shared) (σ : L2.St) (H : Hp) (D : List V → L2.St → Hp → Prop),
    GCx X S Lx A c fs gd → n + ys.length = sizeLine → (∀ n ys s₀ s σ H, n + ys.length = sizeLine → GIx X S Lx [] ys σ H s → D ys σ H → Seg (model X.prog X.w) A R (GYx X S Lx) n s₀ c (K .next) fs s) → GIx X S Lx [] ys σ H s → t D ys σ H →
    Seg (model X.prog X.w) A R (GYx X S Lx) n s₀ c ((execs st X.env).wrap K J gd lv) fs s
def tXthen (t : TS) (u : TGx) : TGx := fun D ys σ H => t { nx := fun σ' H' => u D ys σ' H', rt := fun _ _ => False } σ H
/-- a statement that hands out nothing -/
theorem gx_cons {st : Stmt} {rest : List Stmt} {t : TS} {u : TGx} (hx : ∀ e s, ¬ X.xe e s) (a : PS X st t) (b : GSx X rest u) : GSx X (st :: rest) (tXthen t u) := by
  refine ⟨fun A S Lx R n ys s₀ c fs K J gd lv s σ H D g hn k hI ht => ?_⟩
  obtain ⟨acc, cc, os, o1, o2, r, I⟩ := hI
  refine seg_execs_cons (seg_wrap ?_)
  rw [g.over]
  refine wpAny_mono (a.run _ s σ H _ I ht) (fun f s' hs => ?_) fun e s' he => absurd he (hx e s')
  cases f with
  | next =>
    obtain ⟨σ', H', I', q⟩ := hs
    exact b.run A S Lx R n ys s₀ c fs K J gd lv s' σ' H' D g hn k ⟨acc, cc, os, o1, o2, r, I'⟩ q
  | brk =>
    obtain ⟨_, _, _, q⟩ := hs
    exact q.elim
  | cont =>
    obtain ⟨_, _, _, q⟩ := hs
    exact q.elim
  | ret w =>
    obtain ⟨_, _, _, _, _, q⟩ := hs
    exact q.elim
theorem gcx_loop {A : Around} {c c' : Code} {fs : List Frame} {gd : Bool → Bool} {k : Result → Sem PySem.Fin} {l kp : List Value} {p : Pos} (g : GCx X S Lx A c fs gd) (hw : c'.weight = 0) (hu : c'.cUnits = 0) : GCx X S Lx A c' (.ret k none (gd false) l c p kp :: fs) id := by
  refine ⟨g.apart, (over_loop hw hu).trans g.over, ?_, ?_, rfl⟩
  · show (splitAtGen fs).map _ = none
    rw [g.split]
    rfl
  · show (gd false || fs.any Frame.guarded) = false
    rw [g.gd, g.guard]
    rfl
/-- for .. in ..: yield elt -/
def tXfor (wi : TI) (g : TG) (te : TE) : TGx := fun D ys σ H => wi σ H fun J H1 => ∃ W : Nat → Nat → List V → L2.St → Hp → Prop, (∃ m, W 0 m ys σ H1) ∧ ∀ i m ys σ H, W i m ys σ H →
  (J.stop i H ∧ D ys σ H) ∨ (J.go i H ∧ ∃ N : List V → L2.St → Hp → Prop, (∀ ys' σ' H', N ys' σ' H' → ∃ m', m' < m ∧ W (i + 1) m' ys' σ' H') ∧ ∀ x H', J.yld i H x H' → g x σ H' fun σ2 H2 => ys.length < sizeLine ∧ te σ2 H2 fun y H3 => N (ys ++ [y]) σ2 H3)
theorem gx_loop {A : Around} {R : GenEnd} {fs : List Frame} {D : List V → L2.St → Hp → Prop} {tg elt : Expr} {yp ep : Pos} {g : TG} {te : TE} {it : Addr} {fp : List Addr} {tn : Nat → Heap → Prop} {Jt : It} {W : Nat → Nat → List V → L2.St → Hp → Prop}
    (hc : X.calm = true) (hx : ∀ e s, ¬ X.xe e s) (hg : PG X tg g) (he : PE X elt te) (hco : X.env.scope.isCoroutine = false) (hin : interactive X.env = false) (T : Turn X.prog X.w X.K tg Jt fp it tn)
    (gl : GCx X S Lx A (.forLoop tg (.ref it) [.Expr (.Yield (some elt) yp) ep] [] X.env) fs id)
    (fpo : ∀ b ∈ fp, (b ∈ X.ex ∨ X.s_0.heap.objs.size ≤ b) ∧ b ≠ X.env.locals ∧ b ∉ X.fs ∧ (∀ x c, X.env.cells.lookup x = some c → c ≠ b) ∧ (∀ p ∈ X.pn, p.1 ≠ b) ∧ b ∉ S :: Lx)
    (hend : ∀ n ys s₀ s σ H, n + ys.length = sizeLine → GIx X S Lx [] ys σ H s → D ys σ H → Seg (model X.prog X.w) A R (GYx X S Lx) n s₀ (.block [] X.env) (.pure (.done .next)) fs s)
    (turn : ∀ i m ys σ H, W i m ys σ H → (Jt.stop i H ∧ D ys σ H) ∨ (Jt.go i H ∧ ∃ N : List V → L2.St → Hp → Prop, (∀ ys' σ' H', N ys' σ' H' → ∃ m', m' < m ∧ W (i + 1) m' ys' σ' H') ∧ ∀ x H', Jt.yld i H x H' → g x σ H' fun σ2 H2 => ys.length < sizeLine ∧ te σ2 H2 fun y H3 => N (ys ++ [y]) σ2 H3)) :
    ∀ (m n i : Nat) (ys : List V) (s₀ s : Shared) (σ : L2.St) (H : Hp), n + ys.length = sizeLine → W i m ys σ H → GIx X S Lx [] ys σ H s → tn i s.heap → (∀ b ∈ fp, H b = none) →
      Seg (model X.prog X.w) A R (GYx X S Lx) n s₀ (.forLoop tg (.ref it) [.Expr (.Yield (some elt) yp) ep] [] X.env) ((model X.prog X.w).den (.forLoop tg (.ref it) [.Expr (.Yield (some elt) yp) ep] [] X.env)) fs s := by
  intro m
  induction m using Nat.strongRecOn with
  | ind m ih =>
    intro n i ys s₀ s σ H hn w hI st nf
    obtain ⟨acc, cc, os, o1, o2, r, I⟩ := hI
    rw [List.append_nil] at I
    have stat : ∀ {H' : Hp}, (∀ b ∈ fp, H' b = none) → ∀ b ∈ fp, FpOk X ((S, lstObj acc cc) :: os) H' b := fun hn b hb => by
      obtain ⟨f4, f1, f3, f5, f6, f7⟩ := fpo b hb
      refine ⟨hn b hb, f1, f3, f4, f5, fun p hp => ?_⟩
      rcases List.mem_append.mp hp with hp | hp
      · exact f6 p hp
      · rcases List.mem_cons.mp hp with hp | hp
        · rw [hp]
          exact fun z => f7 (by rw [← z]; exact List.mem_cons_self)
        · exact fun z => f7 (by rw [← z]; exact List.mem_cons_of_mem _ (o1 p hp))
    show Seg _ _ _ _ n s₀ _ ((forTurn tg (.ref it) [.Expr (.Yield (some elt) yp) ep] [] X.env).onRaise _) _ s
    unfold forTurn
    rw [Sem.onRaise_eq_wrap]
    refine seg_bind_wrap (wpAny_standAt ?_)
    refine seg_bind_wrap (wpAny_onRaise ?_)
    rw [gl.over]
    rcases turn i m ys σ H w with ⟨stop, q⟩ | ⟨go, N, hN, step⟩
    · refine wpAny_mono (T.done X rfl rfl rfl hc i _ s σ H X.xe I (stat nf) st stop) (fun z s4 ⟨hz, I4⟩ => ?_) fun e s' z => absurd z (hx e s')
      subst hz
      refine seg_again (c' := .block [] X.env) rfl ?_
      exact hend n ys s₀ s4 σ H hn ⟨acc, cc, os, o1, o2, r, by rw [List.append_nil]; exact I4⟩ q
    · refine wpAny_mono (T.item X rfl rfl rfl hc i _ s σ H X.xe I (stat nf) st go) (fun z s4 ⟨u, hz, h4⟩ => ?_) fun e s' z => absurd z (hx e s')
      subst hz
      refine seg_bind_wrap ?_
      rw [gl.over]
      refine wpAny_mono h4 (fun _ s5 ⟨x, H5, I5, r5, y5, st5, nf5⟩ => ?_) fun e s' z => absurd z (hx e s')
      have I5' := I5.pinned (stat nf5) (T.obj _ _ st5)
      refine seg_bind_wrap ?_
      rw [gl.over]
      refine wpAny_mono (hg.run _ s5 σ H5 x u _ I5' r5 (step x H5 y5)) (fun _ s6 ⟨σ6, H6, I6, hlt, q6⟩ => ?_) fun e s' z => absurd z (hx e s')
      obtain ⟨n, rfl⟩ : ∃ k, n = k + 1 := ⟨n - 1, by omega⟩
      rw [Sem.bind_eq_wrap', Sem.wrap_wrap]
      refine seg_execs_cons ?_
      refine seg_Expr_Yield gl.split rfl gl.guard ?_ hco hin
      rw [gl.over]
      refine wpAny_mono (he.run _ s6 σ6 H6 _ I6 q6) (fun yv s7 ⟨y, H7, I7, r7, nx⟩ => fun kap hk => ?_) fun e s' z => absurd z (hx e s')
      have hip : ∀ p ∈ pinsAt fp s5.heap, p.1 ∉ S :: Lx := fun p hp => (fpo _ (of_pinsAt hp).1).2.2.2.2.2
      have G7 : GIx X S Lx (pinsAt fp s5.heap) ys σ6 H7 s7 := ⟨acc, cc, os, o1, o2, r, I7⟩
      refine ⟨ys, y, pinsAt fp s5.heap, σ6, H7, hn, r7, G7, fun s8 z => hk .none s8 ?_⟩
      have G8 := G7.woken hip gl.apart r7 z
      have I8 := G8.inv
      obtain ⟨m', hm, w8⟩ := hN _ _ _ nx
      refine seg_execs_nil ?_
      refine seg_again (c' := .forLoop tg (.ref it) [.Expr (.Yield (some elt) yp) ep] [] X.env) rfl ?_
      refine ih m' hm n (i + 1) (ys ++ [y]) s8 s8 σ6 H7 (by rw [List.length_append]; show n + (ys.length + 1) = _; omega) w8 G8.unpin (T.keep _ _ _ st5 fun b hb o e => ?_) fun b hb => ?_
      · exact (I8.pin (b, o) (List.mem_append_right _ (mem_pinsAt hb e))).1
      · obtain ⟨o, e, _⟩ := T.obj _ _ st5 b hb
        exact (I8.pin (b, o) (List.mem_append_right _ (mem_pinsAt hb e))).2.1
theorem gx_for {tg iter elt : Expr} {yp ep pos : Pos} {wi : TI} {g : TG} {te : TE} (hc : X.calm = true) (hx : ∀ e s, ¬ X.xe e s) (hi : PI X tg iter wi) (hg : PG X tg g) (he : PE X elt te) (hs : ∀ x, foldedSetIterable iter X.env x = pure x) (hco : X.env.scope.isCoroutine = false) (hin : interactive X.env = false) :
    GSx X [.For tg iter [.Expr (.Yield (some elt) yp) ep] [] pos] (tXfor wi g te) := by
  refine ⟨fun A S Lx R n ys s₀ c fs K J gd lv s σ H D gc hn k hI ht => ?_⟩
  obtain ⟨acc, cc, os, o1, o2, r, I⟩ := hI
  rw [List.append_nil] at I
  refine seg_execs_cons ?_
  rw [exec_For]
  refine seg_bind_wrap (wpAny_standAt ?_)
  refine seg_bind_wrap ?_
  rw [gc.over]
  refine wpAny_mono (hi.run _ s σ H _ I ht) (fun w s1 h1 => ?_) fun e s' z => absurd z (hx e s')
  refine seg_bind_wrap (wpAny_of_eq (hs w) ?_)
  refine seg_bind_wrap (wpAny_standAt ?_)
  refine seg_bind_wrap (wpAny_holding ?_)
  rw [gc.over]
  refine wpAny_mono h1 (fun itv s2 h2 => ?_) fun e s' z => absurd z (hx e s')
  obtain ⟨it, fp, tn, Jt, H2, rfl, I2, T, st2, f2, W, ⟨m0, w0⟩, turn⟩ := h2
  refine seg_call fun p => ?_
  have fpo : ∀ b ∈ fp, (b ∈ X.ex ∨ X.s_0.heap.objs.size ≤ b) ∧ b ≠ X.env.locals ∧ b ∉ X.fs ∧ (∀ x c, X.env.cells.lookup x = some c → c ≠ b) ∧ (∀ p ∈ X.pn, p.1 ≠ b) ∧ b ∉ S :: Lx := fun b hb => by
    obtain ⟨_, f1, f3, f4, f5, f6⟩ := f2 b hb
    refine ⟨f4, f1, f3, f5, fun p hp => f6 p (List.mem_append_left _ hp), fun z => ?_⟩
    rcases List.mem_cons.mp z with z | z
    · exact f6 (S, lstObj acc cc) (List.mem_append_right _ List.mem_cons_self) z.symm
    · obtain ⟨o, ho, _⟩ := o2 b z
      exact f6 (b, o) (List.mem_append_right _ (List.mem_cons_of_mem _ ho)) rfl
  refine gx_loop hc hx hg he hco hin T (gcx_loop gc rfl rfl) fpo (fun n ys s₀ s σ H hn hI hD => ?_) turn m0 n 0 ys s₀ s2 σ H2 hn w0 ⟨acc, cc, os, o1, o2, r, by rw [List.append_nil]; exact I2⟩ st2 fun b hb => (f2 b hb).1
  exact seg_leaf (.ok .next) (seg_execs_nil (env := X.env) (k n ys s₀ s σ H hn hI hD))
end
end EV

set_option maxHeartbeats 2000000
/-! a generator def's call: a generator that has not begun -/
namespace EV
open PySem PySem.Spec PyProof.Rows L2 GenW
/-- the body's context: the generator's own object is pinned, nothing is raised -/
abbrev gx (P : Program) (w : World) (K : PySem.W.Frag) (mg : Str → Option Value) (base : Heap) (N : List Str) (qual : Str) (scope : Scope) (f : Addr) (cd : Value) (A : Around) (outer : List PySem.Env) (s : Shared) (H : Hp) (pn : List (Addr × Obj)) : Cx :=
  (gcxOf P w K mg base N qual scope f cd A outer s H (fun _ _ _ => False) pn).nox
/-- arguments, heap, what is wanted of all that is out -/
abbrev SpX := List V → Hp → (List V → Hp → Prop) → Prop
def REx (P : Program) (w : World) (outer : List PySem.Env) (H : Hp) (s : Shared) (S : Addr) (Lx : List Addr) (Q : List V → Hp → Prop) : GenEnd := fun n s₀ r s1 =>
  ((r = .ok (.ret .none) ∨ r = .ok .next) ∧ ∃ H' ys acc c, s1.os = s.os ∧ AllBare s1.gens ∧ Un (frs outer) [] H H' s.heap s1.heap ∧ HOk P w H' s1.heap ∧ H' S = none ∧ s1.heap.get? S = some (lstObj acc c) ∧ Vals ys acc.toList ∧ ys.length ≤ sizeLine ∧ Q ys H' ∧
    ∀ b ∈ Lx, H' b = none ∧ ∃ o, s1.heap.get? b = some o ∧ NsO o) ∨ ∃ e, r = .error e ∧ False
def YIx (s : Shared) (S : Addr) (Lx : List Addr) (a : Addr) (g : Nat) : Protocol := fun n s₀ v s1 kap =>
  s1.os = s.os ∧ AllBare s1.gens ∧ s1.heap.NoLimit ∧ s1.heap.IsGen a g ∧ (∃ (acc : Array Value) (c : Nat), s1.heap.get? S = some (lstObj acc c) ∧ n + 1 + acc.size = sizeLine) ∧ (∀ b ∈ Lx, ∃ o, s1.heap.get? b = some o ∧ NsO o) ∧ ∀ s', Slp S Lx v s1 s' → kap (.send .none) s'
def GMx (P : Program) (w : World) (k : Nat) (outer : List PySem.Env) (H : Hp) (s : Shared) (Q : List V → Hp → Prop) (u : Value) (s' : Shared) : Prop :=
  ∃ (a : Addr) (g : Nat) (c : Code), u = .ref a ∧ s.heap.objs.size ≤ a ∧ a < s'.heap.objs.size ∧ s'.heap.IsGen a g ∧ s'.gens[g]? = some (.fresh c) ∧ s'.os = s.os ∧ AllBare s'.gens ∧ s'.heap.NoLimit ∧ (∀ b o, s.heap.get? b = some o → s'.heap.get? b = some o) ∧
    ∀ (A : Around) (S : Addr) (Lx : List Addr) (s2 : Shared), Room k A → A.frames = some outer → S ∉ Lx → (∀ b ∈ S :: Lx, s'.heap.objs.size ≤ b) → (∀ b o, s'.heap.get? b = some o → s2.heap.get? b = some o) → (∃ c, s2.heap.get? S = some (lstObj #[] c)) →
      (∀ b ∈ Lx, ∃ o, s2.heap.get? b = some o ∧ NsO o) → s2.os = s.os → AllBare s2.gens → Seg (model P w) A (REx P w outer H s S Lx Q) (YIx s S Lx a g) sizeLine s2 c ((model P w).den c) [] s2
/-- a generator def's promise -/
structure GnR (P : Program) (w : World) (K : PySem.W.Frag) (mg : Str → Option Value) (base : Heap) (k : Nat) (f : Addr) (sp : SpX) : Prop where
  run : ∀ (A : Around) (outer : List PySem.Env) (s : Shared) (H : Hp) (us : List Value) (vs : List V) (Q : List V → Hp → Prop), Room k A → Env0 P w K mg base A outer s H → Vals vs us → sp vs H Q →
    codeAny (model P w) A (.call (.ref f) ⟨us, []⟩) (fun r s' => match r with | .ok (.ret u) => GMx P w k outer H s Q u s' | _ => False) s
theorem gnr_of {P : Program} {w : World} {K : PySem.W.Frag} {mg : Str → Option Value} {base : Heap} {k : Nat} {f : Addr} {name qual : Str} {params : Arguments} {body : List Stmt} {scope : Scope} {dV kV doc pm cdv ct oc : Value} {an od : Option Addr}
    {osl : Array (Option Value)} {N ps : List Str} {sp : SpX} (lk : K.lookup f = some ⟨oc, od, .func (PySem.W.fnOf name qual params body scope dV kV doc pm an cdv ct), osl⟩) (hcd : PySem.W.codeIn K cdv qual = true) (S : GScope N ps scope)
    (len : ∀ vs H Q, sp vs H Q → vs.length = ps.length) (hb : Binds K (PySem.W.fnOf name qual params body scope dV kV doc pm an cdv ct) ps [])
    (hbody : ∀ (A : Around) (outer : List PySem.Env) (s : Shared) (H : Hp) (vs : List V) (Q : List V → Hp → Prop) (pn : List (Addr × Obj)), Room k (A.deeper (envOfC qual scope s.heap.objs.size f cdv)) → sp vs H Q →
      ∃ t, GSx (gx P w K mg base N qual scope f cdv A outer s H pn) body t ∧ t (fun ys _ H' => Q ys H') [] (L2.start N vs) H) :
    GnR P w K mg base (k + 1) f sp := by
  refine ⟨fun A outer s H us vs Q hr e0 r hsp => ?_⟩
  have hl := len _ _ _ hsp
  have hlu : us.length = ps.length := by rw [← r.length, hl]
  have KX : K.In s.heap := e0.mod.kin.keeps fun b o e => (e0.bs b o e).1
  have lim : s.heap.NoLimit := e0.mod.nolimit.keeps fun b o e => (e0.bs b o e).1
  have hbs := hb s us KX (by rw [List.append_nil]; exact hlu)
  rw [List.append_nil] at hbs
  have hkind : ∀ y ∈ ps.zip us, scope.names.lookup y.1 = some .local ∨ (scope.names.lookup y.1 = some .cell ∧ ((cellsFrom (s.heap.objs.size + 1) scope.names []).lookup y.1).isSome = true) := by
    rintro ⟨n, v⟩ hy
    rcases S.par n (List.of_mem_zip hy).1 with q | q
    · exact .inl q
    · exact .inr ⟨q, PySem.W.cellsFrom_some _ _ _ (.inl q)⟩
  refine codeAny_call_generator hr.depth (KX _ _ lk) rfl S.co S.gen rfl (PySem.W.codeRec_of KX hcd) (hbs _ _ _ _ (wpAny_newFunctionEnv_cells S.kind hkind fun env he s1 x => ?_))
  subst he
  have lim1 : s1.heap.NoLimit := lim.keeps x.toInCall.keep
  refine ⟨lim1, ?_⟩
  obtain ⟨h1, tk, es1, hk1⟩ := x.done
  have os1 : s1.os = s.os := by rw [es1]
  have gen1 : s1.gens = s.gens := by rw [es1]
  have lt1 : s.heap.objs.size < s1.heap.objs.size := x.toInCall.ns.lt
  have sz1 : s.heap.objs.size ≤ s1.heap.objs.size := Nat.le_of_lt lt1
  have kp1 : ∀ b o, s.heap.get? b = some o → s1.heap.get? b = some o := x.toInCall.keep
  have main : ∀ (go : Obj) (nm qn : Value) (tk2 : Nat), go.cls = .type "generator" → go.data = .fields #[.int s1.gens.size 0, nm, qn] → go.slots = #[] → (∀ h : Heap, (h.push go).get? h.objs.size = some go) →
      GMx P w (k + 1) outer H s Q (.ref s1.heap.objs.size) { s1 with gens := s1.gens.push (.fresh (.func body (envOfC qual scope s.heap.objs.size f cdv))), toks := tk2, heap := s1.heap.push go } := by
    intro go nm qn tk2 hgc hgd0 hgs hgp
    have hgen : ∀ h : Heap, h.get? s1.heap.objs.size = some go → h.IsGen s1.heap.objs.size s1.gens.size := fun h e => ⟨go, nm, qn, e, hgc, hgd0, hgs⟩
    have hpushed : (s1.heap.push go).get? s1.heap.objs.size = some go := hgp _
    refine ⟨s1.heap.objs.size, s1.gens.size, _, rfl, sz1, ?_, hgen _ hpushed, Array.getElem?_push_size .., os1, AllBare.push (by rw [gen1]; exact e0.bare) rfl, lim1.keeps fun b o e => Heap.get?_push_of_some _ e, fun b o e => Heap.get?_push_of_some _ (kp1 b o e), ?_⟩
    · show _ < (s1.heap.push _).objs.size
      rw [Heap.size_push]
      exact Nat.lt_succ_self _
    intro Aw Sx Lx s2 hrw hfr hSL hSx hk2 hSo hLo hos hba
    have e0w : Env0 P w K mg base Aw outer s H := ⟨hfr, e0.mod, e0.bs, e0.bsz, e0.funs, e0.frf, e0.hok, e0.bare⟩
    obtain ⟨t, ht, hq⟩ := hbody Aw outer s H vs Q [(s1.heap.objs.size, go)] (hrw.deeper _) hsp
    have I1 : Inv (gcxOf P w K mg base N qual scope f cdv Aw outer s H (fun _ _ _ => False) []) [] (L2.start N vs) H s1 := inv_startG S hrw.hd e0w hl r x
    have kp2 : ∀ b o, s1.heap.get? b = some o → s2.heap.get? b = some o := fun b o e => hk2 b o (Heap.get?_push_of_some _ e)
    have I2 : Inv (gcxOf P w K mg base N qual scope f cdv Aw outer s H (fun _ _ _ => False) []) [] (L2.start N vs) H s2 :=
      I1.call' (ch := []) (hos.trans os1.symm) (Un.kept kp2) (I1.hok.kept kp2) hba fun b z => by simp at z
    have hlt : ∀ b ∈ Sx :: Lx, s1.heap.objs.size < b := fun b hb => by
      have q : (s1.heap.push go).objs.size ≤ b := hSx b hb
      rw [Heap.size_push] at q
      exact q
    have hea : s2.heap.get? s1.heap.objs.size = some go := hk2 s1.heap.objs.size go hpushed
    have hgd : ∀ v, go.data ≠ .cell v := fun v q => by rw [hgd0] at q; cases q
    have young : ∀ b, s1.heap.objs.size ≤ b → H b = none ∧ b ≠ s.heap.objs.size ∧ b ∉ frs outer ∧ s.heap.objs.size ≤ b ∧ ∀ y c, (cellsFrom (s.heap.objs.size + 1) scope.names []).lookup y = some c → c ≠ b := fun b hb => by
      refine ⟨I1.hok.fresh hb, Nat.ne_of_gt (Nat.lt_of_lt_of_le lt1 hb), I1.nofs hb, Nat.le_trans sz1 hb, fun y c e z => ?_⟩
      obtain ⟨v, ob, ho, _⟩ := I1.cell y c e
      have := Heap.lt_size ho
      rw [z] at this
      exact absurd (Nat.lt_of_lt_of_le this hb) (Nat.lt_irrefl _)
    obtain ⟨cS, heS⟩ := hSo
    have hG : GIx (gx P w K mg base N qual scope f cdv Aw outer s H [(s1.heap.objs.size, go)]) Sx Lx [] [] (L2.start N vs) H s2 := by
      refine ⟨#[], cS, pinsAt Lx s2.heap, fun p hp => (of_pinsAt hp).1, fun b hb => ?_, .nil, ?_⟩
      · obtain ⟨o, e, no⟩ := hLo b hb
        exact ⟨o, mem_pinsAt hb e, no⟩
      · rw [List.append_nil]
        refine Inv.wish (Inv.pinnedG I2 fun p hp => ?_) _
        rcases List.mem_append.mp hp with z | z
        · rw [List.mem_singleton.mp z]
          obtain ⟨y1, y2, y3, _, _⟩ := young s1.heap.objs.size (Nat.le_refl _)
          exact ⟨hea, y1, y2, y3, hgd⟩
        · rcases List.mem_cons.mp z with z | z
          · rw [z]
            obtain ⟨y1, y2, y3, _, _⟩ := young Sx (Nat.le_of_lt (hlt _ List.mem_cons_self))
            exact ⟨heS, y1, y2, y3, fun v q => by cases q⟩
          · obtain ⟨hb, e⟩ := of_pinsAt z
            obtain ⟨y1, y2, y3, _, _⟩ := young p.1 (Nat.le_of_lt (hlt _ (List.mem_cons_of_mem _ hb)))
            obtain ⟨o, e2, es, ep, no, _⟩ := hLo _ hb
            have eo : p.2 = o := Option.some.inj (e.symm.trans e2)
            exact ⟨e, y1, y2, y3, fun v q => by rw [eo, no] at q; cases q⟩
    have hAp : Apr (gx P w K mg base N qual scope f cdv Aw outer s H [(s1.heap.objs.size, go)]) Sx Lx := by
      refine ⟨fun b hb => ?_, hSL⟩
      obtain ⟨_, y2, _, y4, y5⟩ := young b (Nat.le_of_lt (hlt b hb))
      refine ⟨y4, y2, y5, fun p hp => ?_⟩
      rw [List.mem_singleton.mp hp]
      exact Nat.ne_of_lt (hlt b hb)
    have pinned : ∀ {ip : List (Addr × Obj)} {ys : List V} {s' : Shared} {σ' : L2.St} {H' : Hp}, GIx (gx P w K mg base N qual scope f cdv Aw outer s H [(s1.heap.objs.size, go)]) Sx Lx ip ys σ' H' s' → s'.heap.IsGen s1.heap.objs.size s1.gens.size := fun {ip ys s' σ' H'} hI =>
      hgen _ (hI.inv.pin (s1.heap.objs.size, go) (List.mem_append_left _ (List.mem_singleton.mpr rfl))).1
    refine seg_func ?_
    refine seg_imp (R := fun n s₀ r s1' => (r = .ok (.ret .none)) ∧ ∃ ys σ' H', n + ys.length = sizeLine ∧ GIx (gx P w K mg base N qual scope f cdv Aw outer s H [(s1.heap.objs.size, go)]) Sx Lx [] ys σ' H' s1' ∧ Q ys H')
      (Y := GYx (gx P w K mg base N qual scope f cdv Aw outer s H [(s1.heap.objs.size, go)]) Sx Lx) (fun n s₀ rr s1' hR => ?_) (fun n s₀ v s1' kap kap' hkk hY => ?_) sizeLine ?_
    · obtain ⟨e, ys, σ', H', hn, hI, hQ⟩ := hR
      obtain ⟨acc, cc, ra, ea, a1, _, _⟩ := hI.list
      have J := hI.inv
      exact .inl ⟨.inl e, H', ys, acc, cc, J.os, J.bare, J.base, J.hok, a1, ea, ra, by omega, hQ, fun b hb => by
        obtain ⟨d1, _, _, d4⟩ := hI.dicts b hb
        exact ⟨d1, d4⟩⟩
    · obtain ⟨ys, xx, ip, σ', H', hn, h2, hI, h3⟩ := hY
      obtain ⟨acc, cc, ra, ea, _⟩ := hI.list
      have J := hI.inv
      have hsz : acc.size = ys.length := by
        have e1 := ra.length
        have e2 : acc.toList.length = acc.size := by simp
        omega
      exact ⟨J.os, J.bare, J.nolimit, pinned hI, ⟨acc, cc, ea, by rw [hsz]; exact hn⟩, fun b hb => (hI.dicts b hb).2.2.2, fun s' z => hkk _ _ (h3 s' z)⟩
    · refine ht.run Aw Sx Lx _ sizeLine [] s2 _ [] _ _ id id s2 (L2.start N vs) H _ ⟨hAp, over_func, rfl, rfl, rfl⟩ (Nat.add_zero _) (fun n ys s₀ s' σ' H' hn hI hQ => ?_) hG hq
      exact seg_end (.ok (.ret .none)) ⟨rfl, ys, σ', H', hn, hI, hQ⟩
  exact main _ _ _ _ rfl rfl rfl fun h => Heap.get?_push_size _ rfl
end EV

set_option maxHeartbeats 2000000
/-! a generator that has not begun is walked by a comprehension [x for x in g] -/
namespace EV
open PySem PySem.Spec PyProof.Rows L2 GenW
abbrev TGc := L2.St → Hp → (List V → Hp → Prop) → Prop
/-- an expression whose value is a generator that has not begun -/
structure PGx (X : Cx) (k : Nat) (e : Expr) (tg : TGc) : Prop where
  run : ∀ (pins : List (Addr × Obj)) (s : Shared) (σ : L2.St) (H : Hp) (cont : List V → Hp → Prop), L2.Inv X pins σ H s → tg σ H cont → wpAny (model X.prog X.w) X.A (eval e X.env)
    (fun u s' => Room (k + 1) X.A ∧ ∃ H1 sc, L2.Inv X pins σ H1 sc ∧ GMx X.prog X.w k X.stack H1 sc cont u s') X.xe s
section
variable {X : Cx} {k : Nat} {f : Addr} {sp : SpX} {x : Str} {p pos : Pos} {e : Expr} {es : List Expr} {ta : TA}
def tCallX (sp : SpX) (t : TA) : TGc := fun σ H cont => t σ H fun vs H1 => sp vs H1 cont
theorem pgx_call (F : GnR X.prog X.w X.K X.mg X.base k f sp) (hr : ∀ vs H cont, sp vs H cont → Room (k + 1) X.A) (hg : Gl X x) (hm : X.mg x = some (.ref f)) (hk : PySem.W.keepIn X.K (.ref f) = true) (ha : PA X (e :: es) ta) (hdb : (x == ("__debug__" : Str)) = false)
    (he : starEach (e :: es) X.env = (false, eval e X.env) :: starEach es X.env) (hpl : (backTo pos (starEach es X.env)).any (·.1) = false) : PGx X k (.Call (.Name x p) (e :: es) [] pos) (tCallX sp ta) := by
  refine ⟨fun pins s σ H cont I h => wpAny_Call_Name_kw (ld_glob I hg hm ?_ hdb)⟩
  refine PySem.W.callWith_K (h₀ := X.base) I.ok.mod.kin hk (thn (ha.run pos pins s σ H _ I h) fun us s1 ⟨vs, H1, I1, r, q⟩ => ⟨I1.kIn, ?_⟩) he hpl
  refine wpAny_call (codeAny_mono (F.run X.A X.stack s1 H1 us vs cont ((hr _ _ _ q).mono (Nat.le_succ k)) I1.env0 r q) fun r s' hq => ?_)
  match r, hq with
  | .ok (.ret u), hq => exact ⟨hr _ _ _ q, H1, s1, I1, hq⟩
/-- the list of all that is handed out -/
def tAllX (tg : TGc) : TE := fun σ H Q => tg σ H fun out H2 => ∀ p, H2 p = none → Q (.ref p) (upd H2 p (.lst out))
end
/-- from turn to turn of the consumer -/
def Wk (P : Program) (w : World) (A : Around) (outer : List PySem.Env) (H : Hp) (sc : Shared) (S : Addr) (Lx : List Addr) (a : Addr) (g : Nat) (cont : List V → Hp → Prop) (n : Nat) (s : Shared) : Prop :=
  s.heap.IsGen a g ∧ s.heap.NoLimit ∧ (∃ gs, s.gens[g]? = some gs ∧ gs.Goes (model P w) A (REx P w outer H sc S Lx cont) (YIx sc S Lx a g) n (.send .none) (s.setGen g .running)) ∧
    (∃ (acc : Array Value) (c : Nat), s.heap.get? S = some (lstObj acc c)) ∧ ∀ b ∈ Lx, ∃ o, s.heap.get? b = some o ∧ NsO o
section
variable {P : Program} {w : World} {A : Around} {outer : List PySem.Env} {H : Hp} {sc : Shared} {S a : Addr} {Lx : List Addr} {g : Nat} {cont : List V → Hp → Prop} {s : Shared} {E : Value → Shared → Prop}
/-- one turn: the next item, or the end -/
theorem wk_next {n : Nat} {Q : Option Value → Shared → Prop} (hh : A.handled = none) (hroom : A.depth < recursionLimit) (hSa : S ≠ a) (hLa : a ∉ Lx) (hSc : S ≠ cStatics) (hLc : cStatics ∉ Lx) (h : Wk P w A.in1 outer H sc S Lx a g cont n s)
    (item : ∀ v s1, (∃ (acc : Array Value) (c : Nat), s1.heap.get? S = some (lstObj acc c) ∧ acc.size < sizeLine) → (∀ b ∈ Lx, ∃ o, s1.heap.get? b = some o ∧ NsO o) → AllBare s1.gens →
      (∀ s2, Slp S Lx v s1 s2 → s2.gens = s1.gens → ∃ m, m < n ∧ Wk P w A.in1 outer H sc S Lx a g cont m s2) → Q (some v) s1)
    (done : ∀ s1 H' ys acc c, s1.os = sc.os → AllBare s1.gens → Un (frs outer) [] H H' sc.heap s1.heap → HOk P w H' s1.heap → H' S = none → s1.heap.get? S = some (lstObj acc c) → Vals ys acc.toList → ys.length ≤ sizeLine → cont ys H' →
      (∀ b ∈ Lx, H' b = none ∧ ∃ o, s1.heap.get? b = some o ∧ NsO o) → Q none s1) :
    wpAny (model P w) A (pyNext (.ref a)) Q E s := by
  obtain ⟨hg, hl, ⟨gs, hgs, hgo⟩, _, _⟩ := h
  have hgl : g < s.gens.size := (Array.getElem?_eq_some_iff.mp hgs).1
  refine wpAny_gsz (n := g + 1) hgl (next_genG (Er := fun _ _ => False) hh hl hroom hg hgs hgo (fun v s1 gs' hbare hv => ?_) (fun s1 hp h' hk => ?_) fun e s1 he => he.elim)
  · intro hsz
    obtain ⟨os1, hb1, hl1, hg1, ⟨acc, c, hS1, hasz⟩, hL1, hk⟩ := hv
    have hsz1 : g < s1.gens.size := by
      have q : (s1.setGen g gs').gens.size = s1.gens.size := setGen_size _ _ _
      have q2 : g + 1 ≤ (s1.setGen g gs').gens.size := hsz
      omega
    have hb2 : AllBare (s1.setGen g gs').gens := allBare_setGen hb1 hbare
    refine item v (s1.setGen g gs') ⟨acc, c, hS1, by omega⟩ hL1 hb2 fun s2 z hgens => ?_
    have z' : Slp S Lx v s1 (s2.setGen g .running) := ⟨z.os, allBare_setGen z.bare rfl, z.keep, z.own, z.nsx⟩
    match n, hk with
    | 0, hk => exact (hk _ z').elim
    | m + 1, hk =>
      have hgo2 := hk _ z'
      obtain ⟨c', e'⟩ := z.own acc c hS1
      refine ⟨m, Nat.lt_succ_self m, ?_, ?_, ⟨gs', by rw [hgens]; exact setGen_at hsz1, hgo2⟩, ⟨_, c', e'⟩, fun b hb => z.nsx b hb (hL1 b hb)⟩
      · obtain ⟨o, nm, qn, ho, r⟩ := hg1
        exact ⟨o, nm, qn, z.keep a o (Ne.symm hSa) hLa ho, r⟩
      · obtain ⟨mc, hns, hnn⟩ := hl1
        exact ⟨mc, hns.at' fun o e => z.keep _ o (Ne.symm hSc) hLc e, hnn⟩
  · intro hsz
    obtain ⟨H', ys, acc, c, os1, hb1, un, hok, hSn, hS1, hv, hle, hQ, hL⟩ := hp
    exact done _ H' ys acc c os1 (allBare_setGen hb1 rfl) (un.trans (Un.kept hk)) (hok.kept hk) hSn (hk _ _ hS1) hv hle hQ fun b hb => by
      obtain ⟨d1, o, e, no⟩ := hL b hb
      exact ⟨d1, o, hk _ _ e, no⟩
end
section
variable {X : Cx} {k : Nat}
/-- [x for x in g] -/
theorem pe_lcGen {e : Expr} {tg : TGc} {x : Str} {p1 p2 pos : Pos} {scope : Scope} {own : List (Str × Nat)} (hp : PGx X k e tg) (ok : BlkOk X.N X.env.scope scope own) (hx : scope.names.lookup x = some .local) (hdb : (x == ("__debug__" : Str)) = false)
    (hs : ∀ v, foldedSetIterable e X.env v = pure v) : PE X (.ListComp (.Name x p1) [⟨.Name x p2, e, [], 0⟩] scope pos) (tAllX tg) := by
  refine ⟨fun pins s σ H Q I hq => ?_⟩
  rw [eval_ListComp]
  have hfree : ∀ y ∈ scope.names, y.2 = .free → ∃ c, X.env.cells.lookup y.1 = some c := fun y hy z => by
    rcases ok.free y hy z with q | q
    · exact I.ok.has _ (.inl q)
    · exact I.ok.has _ (.inr q)
  refine wpAny_comprehension_free (use := none) rfl hs (closure_ok hfree) ok.kind (fun y hy z => by rw [ok.uniq y hy, z])
    (thn (hp.run pins s σ H _ I hq) fun u s1 ⟨hr, H1, sc, I1, hG⟩ => ?_)
  obtain ⟨a, g, c, rfl, ha1, ha2, hg, hgs, hos, hb, hl, hkp, wake⟩ := hG
  refine wpAny_pyIter_gen hg ?_
  refine wpAny_newObj_type (newEnv_comp ?_) (by show 0 ≤ sizeLine; decide)
  generalize hD : s1.heap.objs.size = D
  generalize hs3 : ({ s1 with heap := s1.heap.push { cls := .type "list", data := .seq ([] : List Value).toArray } } : Shared) = s3
  have h3 : s3.heap = s1.heap.push (lstObj #[] 0) := by rw [← hs3]
  have k3 : ∀ b o, s1.heap.get? b = some o → s3.heap.get? b = some o := fun b o z => by
    rw [h3]
    exact Heap.get?_push_of_some _ z
  have e3 : s3.heap.get? D = some (lstObj #[] 0) := by
    rw [h3, ← hD]
    exact Heap.get?_push_size _ rfl
  generalize hC : s3.heap.objs.size = C
  have hCD : C = D + 1 := by rw [← hC, h3, Heap.size_push, hD]
  show codeAny _ _ (.compStart (.ListComp (.Name x p1) [⟨.Name x p2, e, [], 0⟩] scope pos) 0 (.ref a) (.ref D) (compEnvC scope (cellsFrom (C + 1) scope.names (cloFrom X.env.cells scope.names [])) C X.env)) (compPost (model X.prog X.w) X.A X.xe none (EP X pins σ Q) (.ref D) C) { s3 with heap := pushCells (s3.heap.push { cls := .type "dict", data := .dict #[] }) scope.names }
  generalize hce : compEnvC scope (cellsFrom (C + 1) scope.names (cloFrom X.env.cells scope.names [])) C X.env = ce
  have cL : ce.locals = C := by subst hce; rfl
  have cK : ce.scope.kind = .function := by subst hce; exact ok.kind
  have cx : ce.kindOf x = some .local := by
    subst hce
    exact lookup_relS_keep (sc := X.env.scope) (by decide) hx
  generalize hs4 : ({ s3 with heap := pushCells (s3.heap.push { cls := .type "dict", data := .dict #[] }) scope.names } : Shared) = s4
  have k4 : ∀ b o, s3.heap.get? b = some o → s4.heap.get? b = some o := fun b o z => by
    rw [← hs4]
    exact pushCells_keeps _ _ _ _ (Heap.get?_push_of_some _ z)
  have eC : ∃ o, s4.heap.get? C = some o ∧ NsO o := by
    refine ⟨{ cls := .type "dict", data := .dict #[] }, ?_, ?_⟩
    · rw [← hs4]
      refine pushCells_keeps _ _ _ _ ?_
      rw [← hC]
      exact Heap.get?_push_size _ rfl
    · exact ⟨#[], _, rfl, by first | exact StrKeys.empty | (intro z hz; simp at hz)⟩
  have hst : cStatics < D := by
    obtain ⟨_, hn, _⟩ := hl
    rw [← hD]
    exact hn.lt
  have haD : a < D := by
    rw [← hD]
    exact ha2
  have n1 : D ≠ a := Nat.ne_of_gt haD
  have hDC : D < C := by omega
  have n2 : a ∉ [C] := fun z => Nat.ne_of_lt (Nat.lt_trans haD hDC) (List.mem_singleton.mp z)
  have n3 : D ≠ cStatics := Nat.ne_of_gt hst
  have n4 : cStatics ∉ [C] := fun z => Nat.ne_of_lt (Nat.lt_trans hst hDC) (List.mem_singleton.mp z)
  obtain ⟨cont, hct⟩ : ∃ cont : List V → Hp → Prop, cont = fun out H2 => ∀ p, H2 p = none → Q (.ref p) (upd H2 p (.lst out)) := ⟨_, rfl⟩
  rw [← hct] at wake
  have nDC : D ≠ C := by omega
  have gens4 : s4.gens = s1.gens := by
    rw [← hs4, ← hs3]
  have os4 : s4.os = s1.os := by
    rw [← hs4, ← hs3]
  have w0 : Wk X.prog X.w X.A.in1 X.stack H1 sc D [C] a g cont sizeLine s4 := by
    refine ⟨hg.keeps fun b o z => k4 b o (k3 b o z), hl.keeps fun b o z => k4 b o (k3 b o z), ⟨.fresh c, by rw [gens4]; exact hgs, rfl, ?_⟩, ⟨#[], 0, k4 _ _ e3⟩, fun b hb => by rw [List.mem_singleton.mp hb]; exact eC⟩
    refine wake X.A.in1 D [C] (s4.setGen g .running) ⟨hr.hd, ?_, ?_⟩ I1.ok.frames (fun z => nDC (List.mem_singleton.mp z)) (fun b hb => ?_) (fun b o z => k4 b o (k3 b o z)) ⟨0, k4 _ _ e3⟩ (fun b hb => by rw [List.mem_singleton.mp hb]; exact eC) (os4.trans hos) (allBare_setGen (by rw [gens4]; exact hb) rfl)
    · have := hr.dp
      show X.A.depth + 3 * k + 5 < _
      omega
    · have := hr.un
      show X.A.units + 1 + 16 * k + 200 < _
      omega
    · rw [hD]
      rcases List.mem_cons.mp hb with z | z
      · exact Nat.le_of_eq z.symm
      · rw [List.mem_singleton.mp z]
        exact Nat.le_of_lt hDC
  have hcls : (ce.scope.kind == .class || (ce.scope.kind == .module && ce.locals != ce.globals)) = false := by
    rw [cK]
    rfl
  have loop : codeAny (model X.prog X.w) X.A (.compLoop (.ListComp (.Name x p1) [⟨.Name x p2, e, [], 0⟩] scope pos) 0 (.ref a) (.ref D) ce) (compPost (model X.prog X.w) X.A X.xe none (EP X pins σ Q) (.ref D) C) s4 := by
    refine compLoop_any (fun n s' => Wk X.prog X.w X.A.in1 X.stack H1 sc D [C] a g cont n s') (fun n s5 h5 => ?_) sizeLine w0
    refine wk_next hr.hd hr.depth n1 n2 n3 n4 h5 (fun v s6 hacc hns hbare kk => ?_) fun s6 H' ys acc c' q1 q2 q3 q4 q5 q6 q7 q8 q9 q10 => ?_
    · refine wpAny_pure ?_
      obtain ⟨oC, eoC, noC⟩ := hns C (List.mem_singleton.mpr rfl)
      obtain ⟨m, hm⟩ := noC.ns eoC
      rw [← cL] at hm
      refine wpAny_assign_Name (wpAny_storeName_local cx hm (fun h7 hn7 sb7 => ?_) hcls)
      refine wpAny_tests_nil ?_
      rw [if_pos rfl]
      refine wpAny_Name (wpAny_loadName_local (v := v) cK cx hn7 (by simp) ?_) hdb
      rw [cL] at sb7 hn7
      obtain ⟨acc, c', eD, hlt⟩ := hacc
      refine append_at ((sb7.2 D nDC).trans eD) (fun h8 sb8 e8 => ?_) (Nat.le_of_lt hlt)
      refine kk _ ⟨rfl, hbare, fun b o hbD hbC z => ?_, fun acc' c2 z => ?_, fun b hb _ => ?_⟩ rfl
      · exact (sb8.2 b hbD).trans ((sb7.2 b fun q => hbC (List.mem_singleton.mpr q)).trans z)
      · rw [eD] at z
        cases z
        exact ⟨_, e8⟩
      · rw [List.mem_singleton.mp hb]
        obtain ⟨o, eo, no⟩ := nsO_of hn7
        exact ⟨o, (sb8.2 C (Ne.symm nDC)).trans eo, no⟩
    · obtain ⟨d1, oC, eoC, noC⟩ := q10 C (List.mem_singleton.mpr rfl)
      obtain ⟨m, hm⟩ := noC.ns eoC
      have hscD : sc.heap.objs.size ≤ D := Nat.le_trans ha1 (Nat.le_of_lt haD)
      have I2 := I1.drained hscD q8 q6 q7 ExOk.nil q1 q2 q3 q4 q5
      have nC : upd H' D (.lst ys) C = none := by
        rw [upd_ne (Ne.symm nDC)]
        exact d1
      obtain ⟨f0, f1, f2, f3, f4, f5⟩ := I1.fpOk (b := C) (Nat.le_trans hscD (Nat.le_of_lt hDC)) nC
      exact ⟨m, hm, fun h7 sb7 => ⟨.ref D, _, I2.turned (t' := s6.toks) (fun b o hbC z => (sb7.2 b hbC).trans z) f0 f1 f3 f4 f5, rfl, (by rw [hct] at q9; exact q9 D q5)⟩⟩
  exact codeAny_compStart_list loop (wpAny_pyIter_gen (hg.keeps fun b o z => k4 b o (k3 b o z)) loop)
end
end EV

set_option maxHeartbeats 2000000
/-! [x for x in f(..)], f a generator def of the table -/
namespace EV
open PySem PySem.Spec PyProof.Rows L2
/-- what a generator def hands out: all of a list -/
def spG (K : PySem.W.Frag) (CT : CTb) (f : Nat) : SpX := fun vs H Q =>
  ∃ (L : Nat) (m : Pl) (s : Sto) (ds ys : List D) (s' : Sto), L ≤ s.length ∧ SRel K m s H ∧ RDs K m H ds vs ∧ CT f ds s = some (.ok (.lst ys) s') ∧ ∀ m' H' out, Step L m s H m' s' H' → SRel K m' s' H' → RDs K m' H' ys out → Q out H'
def FnG (CT : CTb) (nm : Str) (C : Ct) (f : Nat) : Prop :=
  ∃ (k : Nat) (fa : Addr), C.X.mg nm = some (.ref fa) ∧ PySem.W.keepIn C.X.K (.ref fa) = true ∧ GnR C.X.prog C.X.w C.X.K C.X.mg C.X.base k fa (spG C.X.K CT f) ∧ (Room (k + 1) C.X.A ∨ ∀ ds s, CT f ds s = none)
section
variable {C : Ct} {CT : CTb} {f : Nat} {nm x : Str} {p q p1 p2 pos : Pos} {a : Expr} {es : List Expr} {cs : Env → Sto → Option (Out (List D))} {scope : Scope} {own : List (Str × Nat)}
theorem se_gen {e : Expr} {k : Nat} {fa : Addr} (h : SA C (a :: es) cs) (hp : PE C.X e (tAllX (tCallX (spG C.X.K CT f) (tG C (RDs C.X.K) cs)))) : SE C e (fun ρ s => bnd (cs ρ s) fun xs s1 => lstO (CT f xs s1)) := by
  refine PE.imp hp fun σ H Q ⟨ρ, m, s, hR, hP⟩ => ?_
  refine ⟨ρ, m, s, hR, (PX.bnd (R := RDs C.X.K) hP).mono fun vs H1 ⟨xs, m1, s1, t1, S1, rx, hq⟩ => ?_⟩
  match e : CT f xs s1, hq with
  | some (.ok (.lst ys) s2), hq =>
    refine ⟨C.L, m1, s1, xs, ys, s2, Nat.le_trans hR.base t1.slen, S1, rx, e, fun m2 H2 out t2 S2 ro p hpn => ?_⟩
    have np : ¬ Tk m2 p := fun z => by
      rcases z with z | z
      · obtain ⟨o, h1, _⟩ := S2.held z
        rw [hpn] at h1
        cases h1
      · obtain ⟨_, o, h1⟩ := S2.hid p z
        rw [hpn] at h1
        cases h1
    exact hq m2 _ _ (t2.trans (Step.new hpn)) (S2.new hpn) ⟨p, out, rfl, np, upd_same, RDs.later (Step.new (L := C.L) (s := s2) (m := m2) hpn).later _ _ ro⟩
theorem se_wlk (F : FnG CT nm C f) (hg : Gl C.X nm) (hdb : (nm == ("__debug__" : Str)) = false) (hst : (a :: es).any isStar = false) (h : SA C (a :: es) cs) (ok : BlkOk C.X.N C.X.env.scope scope own) (hx : scope.names.lookup x = some .local) (hdx : (x == ("__debug__" : Str)) = false) :
    SE C (.ListComp (.Name x p1) [⟨.Name x p2, .Call (.Name nm p) (a :: es) [] q, [], 0⟩] scope pos) (fun ρ s => bnd (cs ρ s) fun xs s1 => lstO (CT f xs s1)) := by
  obtain ⟨k, fa, hm, hk, F, hr⟩ := F
  rw [List.any_cons, Bool.or_eq_false_iff] at hst
  have hr' : ∀ vs H cont, spG C.X.K CT f vs H cont → Room (k + 1) C.X.A := fun vs H cont ⟨L, m, s, ds, ys, s', _, _, _, e, _⟩ => by
    rcases hr with hr | hr
    · exact hr
    · rw [hr] at e
      cases e
  exact se_gen (k := k) (fa := fa) h (pe_lcGen (pgx_call F hr' hg hm hk h hdb (starEach_cons hst.1) (noStar_any hst.2)) ok hx hdx fun v => rfl)
end
end EV

set_option maxHeartbeats 2000000
/-! list(g) of a generator that has not begun -/
namespace EV
open PySem PySem.Spec PyProof.Rows L2 GenW
theorem drainX {P : Program} {w : World} {A : Around} {outer : List PySem.Env} {H : Hp} {sc : Shared} {S a : Addr} {g : Nat} {cont : List V → Hp → Prop} {R : Result → Shared → Prop} {res : Value} (hh : A.handled = none) (hroom : A.depth < recursionLimit) (hSa : S ≠ a) (hSc : S ≠ cStatics)
    (hend : ∀ s1 H' ys acc c, s1.os = sc.os → AllBare s1.gens → Un (frs outer) [] H H' sc.heap s1.heap → HOk P w H' s1.heap → H' S = none → s1.heap.get? S = some (lstObj acc c) → Vals ys acc.toList → ys.length ≤ sizeLine → cont ys H' → R (.ok (.ret res)) s1) :
    ∀ (n : Nat) (s : Shared), Wk P w A.in1.in1 outer H sc S [] a g cont n s → codeAny (model P w) A (.builtin "list.extend.loop" ⟨[.ref S, .ref a, res], []⟩) R s := by
  intro n
  induction n using Nat.strongRecOn with
  | ind n ih =>
  intro s h
  refine codeAny_builtin F.entry_extend_loop ?_
  rw [Around.under_plainId F.plain_extend_loop _]
  show wpAny _ A.in1 (pyNext (.ref a) >>= _) _ _ s
  refine wpAny_bind (wk_next (A := A.in1) hh hroom hSa List.not_mem_nil hSc List.not_mem_nil h (fun v s1 hacc hns hbare kk => ?_) fun s1 H' ys acc c q1 q2 q3 q4 q5 q6 q7 q8 q9 q10 => ?_)
  · obtain ⟨acc, c, hS1, hlt⟩ := hacc
    show wpAny _ A.in1 (updateSeq S (·.push v) >>= _) _ _ _
    refine wpAny_bind ?_
    refine wpAny_updateSeq hS1 rfl (wpAny_pure ⟨plainId_quiet F.plain_extend_loop _, ?_⟩) (Nat.le_of_lt hlt) (by show (acc.push v).size ≤ sizeLine + 1; rw [Array.size_push]; omega)
    obtain ⟨m, hm, hW⟩ := kk { s1 with heap := s1.heap.update S (Obj.mapSeq (·.push v)) } ⟨rfl, hbare, fun b o hbS _ z => (Heap.get?_update_other _ _ (Ne.symm hbS)).trans z, fun acc' c2 z => by
      rw [hS1] at z
      cases z
      exact ⟨_, Heap.get?_update_self (Obj.mapSeq (·.push v)) hS1 rfl⟩, fun b hb _ => by cases hb⟩ rfl
    exact ih m hm _ hW
  · exact wpAny_pure (hend s1 H' ys acc c q1 q2 q3 q4 q5 q6 q7 q8 q9)
/-- list(g) -/
theorem call_list_gx {P : Program} {w : World} {outer : List PySem.Env} {H : Hp} {sc s : Shared} {cont : List V → Hp → Prop} {A : Around} {k : Nat} {u : Value} {Q' : Value → Shared → Prop} {E : Value → Shared → Prop}
    (hr : Room (k + 1) A) (hfr : A.frames = some outer) (h : GMx P w k outer H sc cont u s)
    (hQ : ∀ S s' acc c H' ys, s.heap.objs.size ≤ S → sc.heap.objs.size ≤ S → s'.heap.get? S = some (lstObj acc c) → Vals ys acc.toList → ys.length ≤ sizeLine → s'.os = sc.os → AllBare s'.gens → Un (frs outer) [] H H' sc.heap s'.heap → HOk P w H' s'.heap → H' S = none → cont ys H' → Q' (.ref S) s') :
    wpAny (model P w) A (call (.type "list") [u]) Q' E s := by
  obtain ⟨a, g, c, rfl, ha1, ha2, hg, hgs, hos, hb, hl, hkp, wake⟩ := h
  have hSa : s.heap.objs.size ≠ a := Nat.ne_of_gt ha2
  have hcl : cStatics < s.heap.objs.size := let ⟨_, hn, _⟩ := hl; hn.lt
  have hSc : s.heap.objs.size ≠ cStatics := Nat.ne_of_gt hcl
  refine callType_codes (Q₁ := fun obj s₁ => obj = .ref s.heap.objs.size ∧ s₁ = { s with heap := s.heap.push { cls := .type "list", data := .seq #[] } }) F.called_list (F.typeCall_list_1 _) F.entry_list_init
    (code_list_new _ ⟨rfl, rfl⟩) fun obj s₁ h₁ => ?_
  obtain ⟨rfl, rfl⟩ := h₁
  have hS : (s.heap.push { cls := .type "list", data := .seq #[] }).get? s.heap.objs.size = some { cls := .type "list", data := .seq #[] } := Heap.get?_push_size _ rfl
  refine ⟨⟨_, hS, rfl⟩, F.args_list_init_2 _ _, ?_⟩
  show wpAny _ A.in1.in1 (do let old ← Builtin.List.listItems (.ref s.heap.objs.size); Builtin.List.listUpdate (.ref s.heap.objs.size) (fun _ => #[]); letGo old.toList.reverse; Builtin.List.listExtendWith (.ref s.heap.objs.size) (.ref a) .none) _ _ _
  refine wpAny_bind ?_
  unfold Builtin.List.listItems
  refine wpAny_bind (wpAny_seqItems hS rfl (wpAny_pure ?_))
  show wpAny _ A.in1.in1 (updateSeq s.heap.objs.size (fun _ => #[]) >>= fun _ => letGo (#[] : Array Value).toList.reverse >>= fun _ => Builtin.List.listExtendWith (.ref s.heap.objs.size) (.ref a) .none) _ _ _
  refine wpAny_bind (wpAny_updateSeq hS rfl ?_)
  have hS2 := Heap.get?_update_self (Obj.mapSeq (fun _ => (#[] : Array Value))) hS rfl
  refine wpAny_bind (wpAny_letGo ?_)
  unfold Builtin.List.listExtendWith
  have up : ∀ (h : Heap) (f : Obj → Obj), (∀ b o, s.heap.get? b = some o → h.get? b = some o) → ∀ b o, s.heap.get? b = some o → (h.update s.heap.objs.size f).get? b = some o := fun h f q b o e =>
    (Heap.get?_update_other _ _ (Ne.symm (Nat.ne_of_lt (Heap.lt_size e)))).trans (q b o e)
  have k1 : ∀ b o, s.heap.get? b = some o → (s.heap.push { cls := .type "list", data := .seq #[] }).get? b = some o := fun b o e => Heap.get?_push_of_some _ e
  have k2 := up _ (Obj.mapSeq (fun _ => (#[] : Array Value))) k1
  have gty : ∀ {h : Heap}, (∀ b o, s.heap.get? b = some o → h.get? b = some o) → h.IsGen a g := fun {h} q => hg.keeps q
  refine wpAny_bind (wpAny_typeOf (Heap.IsGen.typeIs (s := { s with heap := _ }) (gty k2)) ?_)
  have h1 : Builtin.List.listSameRef (.ref s.heap.objs.size) (.ref a) = false := by simp [Builtin.List.listSameRef, hSa]
  have h2 : (Value.type "generator" == Value.type "list") = false := by decide
  have h3 : (Value.type "generator" == Value.type "tuple") = false := by decide
  simp only [h1, h2, h3, Bool.or_false, Bool.false_eq_true, if_false]
  refine wpAny_bind (wpAny_pyIter_gen (s := { s with heap := _ }) (gty k2) ?_)
  refine wpAny_bind (wpAny_holding ?_)
  unfold Builtin.List.listLengthHint
  refine wpAny_bind (wpAny_specialOf (Heap.IsGen.typeIs (s := { s with heap := _ }) (gty k2)) F.gen_no_len ?_)
  show wpAny _ A.in1.in1 (specialOf (Value.ref a) (Str.ofString "__length_hint__") >>= _) _ _ _
  refine wpAny_bind (wpAny_specialOf (Heap.IsGen.typeIs (s := { s with heap := _ }) (gty k2)) F.gen_no_hint ?_)
  refine wpAny_pure ?_
  show wpAny _ A.in1.in1 (rule "list.extend.makes-room" >>= fun _ => Builtin.List.listTouch (.ref s.heap.objs.size) >>= fun _ =>
    again (.builtin "list.extend.loop" ⟨[.ref s.heap.objs.size, .ref a, .none], []⟩)) _ _ _
  refine wpAny_bind (wpAny_rule ?_)
  refine wpAny_bind ?_
  show wpAny _ A.in1.in1 (updateSeq s.heap.objs.size (·.push .none) >>= fun _ => updateSeq s.heap.objs.size (·.pop)) _ _ _
  refine wpAny_bind (wpAny_updateSeq hS2 rfl ?_)
  have hS3 := Heap.get?_update_self (Obj.mapSeq (·.push Value.none)) hS2 rfl
  refine wpAny_updateSeq (hz := by seq_fits) hS3 rfl ?_
  have hS4 := Heap.get?_update_self (Obj.mapSeq (·.pop)) hS3 rfl
  have k4 := up _ (Obj.mapSeq (·.pop)) (up _ (Obj.mapSeq (·.push Value.none)) k2)
  refine wpAny_pure ⟨plainId_quiet F.plain_extend_loop _, ?_⟩
  refine drainX (P := P) (w := w) (outer := outer) (H := H) (sc := sc) (cont := cont) (A := A.in1) (g := g) hr.hd (by have := hr.dp; show A.depth < _; omega) hSa hSc
    (fun s' H' ys acc c q1 q2 q3 q4 q5 q6 q7 q8 q9 => ⟨rfl, hQ _ s' acc c H' ys (Nat.le_refl _) (Nat.le_trans ha1 (Nat.le_of_lt ha2)) q6 q7 q8 q1 q2 q3 q4 q5 q9⟩)
    sizeLine _ ⟨gty k4, hl.keeps k4, ⟨.fresh c, hgs, rfl, ?_⟩, ⟨_, _, hS4⟩, fun b hb => by cases hb⟩
  refine wake _ _ [] _ ⟨hr.hd, ?_, ?_⟩ hfr List.not_mem_nil (fun b hb => ?_) k4 ⟨_, hS4⟩ (fun b hb => by cases hb) hos (allBare_setGen (s := { s with heap := _ }) hb rfl)
  · have := hr.dp
    show A.depth + 3 * k + 5 < _
    omega
  · have := hr.un
    show A.units + 1 + 1 + 1 + 16 * k + 200 < _
    omega
  · rw [List.mem_singleton.mp hb]
    exact Nat.le_refl _
/-- list(g), the expression -/
theorem pe_listGx {X : Cx} {k : Nat} {e : Expr} {tg : TGc} {p pos : Pos} (hp : PGx X k e tg) (hg : Gl X "list") (hmg : X.mg "list" = none) (he : starEach [e] X.env = (false, eval e X.env) :: starEach [] X.env) : PE X (.Call (.Name "list" p) [e] [] pos) (tAllX tg) := by
  refine ⟨fun pins s σ H Q I hq => ?_⟩
  refine wpAny_Call_Name_kw (ld_blt (u := .type "list") I hg hmg (by decide +kernel) ?_ (by decide) (by decide))
  refine PyProof.Rows.callWith_type1 ?_ he rfl
  rw [he]
  show wpAny _ _ (spliced ((false, eval e X.env) :: backTo pos (starEach [] X.env))) _ _ s
  refine Calls.spliced_cons (thn (hp.run pins s σ H _ I hq) fun u s1 ⟨hr, H1, sc, I1, hG⟩ => ?_)
  refine Calls.spliced_nil ?_
  exact call_list_gx hr I1.ok.frames hG fun S s' acc c H' ys q0 q0' q1 q2 hl q3 q4 q5 q6 q7 q8 => ⟨.ref S, upd H' S (.lst ys), I1.drained q0' hl q1 q2 ExOk.nil q3 q4 q5 q6 q7, rfl, q8 S q7⟩
end EV

set_option maxHeartbeats 2000000
/-! list(f(..)), f a generator def of the table -/
namespace EV
open PySem PySem.Spec PyProof.Rows L2
section
variable {C : Ct} {CT : CTb} {f : Nat} {nm x : Str} {p q p1 p2 pos : Pos} {a : Expr} {es : List Expr} {cs : Env → Sto → Option (Out (List D))}
theorem se_lgn (F : FnG CT nm C f) (hgl : Gl C.X "list") (hml : C.X.mg "list" = none) (hg : Gl C.X nm) (hdb : (nm == ("__debug__" : Str)) = false) (hst : (a :: es).any isStar = false) (h : SA C (a :: es) cs) :
    SE C (.Call (.Name "list" p1) [.Call (.Name nm p) (a :: es) [] q] [] pos) (fun ρ s => bnd (cs ρ s) fun xs s1 => lstO (CT f xs s1)) := by
  obtain ⟨k, fa, hm, hk, F, hr⟩ := F
  rw [List.any_cons, Bool.or_eq_false_iff] at hst
  have hr' : ∀ vs H cont, spG C.X.K CT f vs H cont → Room (k + 1) C.X.A := fun vs H cont ⟨L, m, s, ds, ys, s', _, _, _, e, _⟩ => by
    rcases hr with hr | hr
    · exact hr
    · rw [hr] at e
      cases e
  exact se_gen (k := k) (fa := fa) h (pe_listGx (pgx_call F hr' hg hm hk h hdb (starEach_cons hst.1) (noStar_any hst.2)) hgl hml (starEach_cons rfl))
end
end EV

set_option maxHeartbeats 1000000
/-! sorted(set(a)); defs as values -/
namespace EV
open PySem PySem.Spec PyProof.Rows L2
theorem insU_mem (x y : Int) : ∀ l : List Int, y ∈ insU x l ↔ y = x ∨ y ∈ l
  | [] => by simp [insU]
  | z :: r => by
    unfold insU
    split
    · simp
    · split
      · rename_i e
        subst e
        simp
      · rw [List.mem_cons, insU_mem x y r, List.mem_cons]
        constructor
        · rintro (h | h | h)
          · exact .inr (.inl h)
          · exact .inl h
          · exact .inr (.inr h)
        · rintro (h | h | h)
          · exact .inr (.inl h)
          · exact .inl h
          · exact .inr (.inr h)
theorem insU_srt (x : Int) : ∀ l : List Int, l.Pairwise (· < ·) → (insU x l).Pairwise (· < ·)
  | [], _ => by simp [insU]
  | z :: r, h => by
    obtain ⟨h1, h2⟩ := List.pairwise_cons.mp h
    unfold insU
    split
    · rename_i e
      refine List.pairwise_cons.mpr ⟨fun y hy => ?_, h⟩
      rcases List.mem_cons.mp hy with q | q
      · omega
      · have := h1 y q
        omega
    · split
      · exact h
      · refine List.pairwise_cons.mpr ⟨fun y hy => ?_, insU_srt x r h2⟩
        rcases (insU_mem x y r).mp hy with q | q
        · omega
        · exact h1 y q
theorem srtI_mem (y : Int) : ∀ l : List Int, y ∈ srtI l ↔ y ∈ l
  | [] => by simp [srtI]
  | x :: r => by
    have ih := srtI_mem y r
    show y ∈ insU x (srtI r) ↔ _
    rw [insU_mem, ih, List.mem_cons]
theorem srtI_srt : ∀ l : List Int, (srtI l).Pairwise (· < ·)
  | [] => List.Pairwise.nil
  | x :: r => insU_srt x _ (srtI_srt r)
theorem srt_uniq : ∀ {a b : List Int}, a.Pairwise (· < ·) → b.Pairwise (· < ·) → (∀ k, k ∈ a ↔ k ∈ b) → a = b
  | [], [], _, _, _ => rfl
  | [], y :: r, _, _, h => absurd ((h y).mpr List.mem_cons_self) List.not_mem_nil
  | x :: r, [], _, _, h => absurd ((h x).mp List.mem_cons_self) List.not_mem_nil
  | x :: r, y :: t, ha, hb, h => by
    obtain ⟨a1, a2⟩ := List.pairwise_cons.mp ha
    obtain ⟨b1, b2⟩ := List.pairwise_cons.mp hb
    have e : x = y := by
      rcases List.mem_cons.mp ((h x).mp List.mem_cons_self) with q | q
      · exact q
      · rcases List.mem_cons.mp ((h y).mpr List.mem_cons_self) with z | z
        · exact z.symm
        · have := b1 x q
          have := a1 y z
          omega
    subst e
    rw [srt_uniq a2 b2 fun k => ?_]
    have hk := h k
    rw [List.mem_cons, List.mem_cons] at hk
    constructor
    · intro q
      rcases hk.mp (.inr q) with z | z
      · have := a1 k q
        omega
      · exact z
    · intro q
      rcases hk.mpr (.inr q) with z | z
      · have := b1 k q
        omega
      · exact z
section
variable {C : Ct} {m : Pl} {H : Hp} {s : Sto} {a b : Expr} {es : List Expr} {pos p : Pos} {ca : Env → Sto → Option (Out D)} {cs : Env → Sto → Option (Out (List D))} {CT : CTb}
theorem se_srt {q1 q2 : Pos} (hg : Gl C.X "sorted") (hm : C.X.mg "sorted" = none) (hg2 : Gl C.X "set") (hm2 : C.X.mg "set" = none) (hc : C.X.calm = true) (hst : isStar a = false) (ha : SE C a ca) :
    SE C (.Call (.Name "sorted" p) [.Call (.Name "set" q1) [a] [] q2] [] pos) (fun ρ s => bnd (ca ρ s) fun x s1 => pur s1 (srtD s1 x)) := by
  refine PE.imp (pe_srtSet hg hm hg2 hm2 ha hc (starEach_cons hst)) fun σ H Q ⟨ρ, m, s, hR, hP⟩ => ?_
  refine ⟨ρ, m, s, hR, (PX.bnd (R := RD C.X.K) hP).mono fun v H1 ⟨x, m1, s1, t1, S, rx, q⟩ => ?_⟩
  obtain ⟨d, e, q⟩ := q.pur
  unfold srtD at e
  split at e
  · rename_i ns hx
    split at e
    · rename_i hl
      cases e
      obtain ⟨b, e3, h1⟩ := intsD_val S rx hx
      refine ⟨b, ns, e3, h1, hl, fun zs p z1 z2 hp => ?_⟩
      have e : zs = srtI ns := srt_uniq z1 (srtI_srt ns) fun k => (z2 k).trans (srtI_mem k ns).symm
      rw [e]
      refine q.fresh S hp ⟨p, _, rfl, S.no hp, upd_same, ?_⟩
      generalize upd H1 p (.lst ((srtI ns).map V.int)) = H9
      generalize srtI ns = l
      induction l with
      | nil => exact rfl
      | cons i r ih => exact ⟨.int i, _, rfl, rfl, ih⟩
    · cases e
  · cases e
theorem se_isl {q : Pos} (hg : Gl C.X "isinstance") (hm : C.X.mg "isinstance" = none) (hst : isStar a = false) (hgt : Gl C.X "list") (hmt : C.X.mg "list" = none) (ha : SE C a ca) :
    SE C (.Call (.Name "isinstance" p) [a, .Name "list" q] [] pos) (fun ρ s => bnd (ca ρ s) fun x s1 => if isSq s1 x = true then some (.ok (.bl true) s1) else none) := by
  refine PE.imp (pe_callB call_isi hg hm boot_isinstance (pa_cons ha (pa_cons (pe_ty (t := .list) hgt hmt) pa_nil (starEach_cons rfl)) (starEach_cons hst)) (by decide) (by decide) (starEach_cons hst) rfl) fun σ H Q h => ?_
  obtain ⟨ρ, m, s, hR, hP⟩ := one h
  refine ⟨ρ, m, s, hR, hP.mono fun v H1 ⟨x, m1, s1, S, rx, q⟩ => ?_⟩
  split at q
  · rename_i hq
    unfold isSq at hq
    split at hq
    · rename_i xs ex
      obtain ⟨l, vs, rfl, h1, _⟩ := deref_lst S rx ex
      exact ⟨.ref l, .ty "list", .type "list", .type "list", true, rfl, .ty _, .base (.lst h1), kit_ty ((kit_all "list" .list (by simp)).trans rfl), q.here S rfl⟩
    · cases hq
  · exact (show False from q).elim
theorem se_gf {i : Nat} {x : Str} (hg : Gl C.X x) (hm : C.X.mg x = some (.ref (He.ga C.X.K x))) (hx : (i, x) ∈ gfs) (hdb : (x == ("__debug__" : Str)) = false) : SE C (.Name x p) (fun _ s => some (.ok (.gf i x) s)) :=
  PE.imp (pe_glob (v := .ref (He.ga C.X.K x)) hg hm rfl hdb) fun σ H Q ⟨ρ, m, s, hR, hP⟩ => hP m H _ .refl hR.sr ⟨rfl, .inl hx⟩
/-- x(..), x a name of the def's own that holds a def -/
theorem pe_callDyn {X : Cx} {CX : CXT} {i : Nat} {E : L2.St → XK} {x : Str} {t : L2.St → Hp → (List V → Hp → Prop) → Prop} {e : Expr}
    (hN : X.N[i]? = some x) (hv : Vis X.env.scope x) (hx : ∀ σ, PassesAt CX X σ (E σ)) (ha : PA X (e :: es) t) (hdb : (x == ("__debug__" : Str)) = false) (hcd : (x == ("__classdict__" : Str)) = false)
    (he : starEach (e :: es) X.env = (false, eval e X.env) :: starEach es X.env) (hpl : (backTo pos (starEach es X.env)).any (·.1) = false) :
    PE X (.Call (.Name x p) (e :: es) [] pos) (fun σ H Q => ∃ (k : Nat) (f : Addr) (sp : Sp), σ[i]? = some (some (.ref f)) ∧ Room k X.A ∧ PySem.W.keepIn X.K (.ref f) = true ∧ FnR X.prog X.w X.K X.mg X.base CX k f sp ∧ t σ H fun vs H1 => sp vs H1 Q (E σ)) := by
  refine ⟨fun pins s σ H Q I ⟨k, f, sp, hs, hr, hk, F, ht⟩ => ?_⟩
  refine wpAny_Call_Name_kw (thn ((pe_var (pos := p) hN hv hdb hcd).run pins s σ H (fun v H1 => v = .ref f ∧ H1 = H) I ⟨.ref f, hs, rfl, rfl⟩) fun u s1 ⟨v, H1, I1, r1, z1, z2⟩ => ?_)
  subst z1 z2
  cases r1
  exact PySem.W.callWith_K (h₀ := X.base) I.ok.mod.kin hk (thn (ha.run pos pins s1 σ _ _ I1 ht) fun us s2 ⟨vs, H2, I2, r, q⟩ => ⟨I2.kIn, run_fnRD F hr (hx σ) I2 r q⟩) he hpl
theorem se_cav {k : Nat} {x : Str} {T : Nat → Str} {has : Nat → Bool} (tk : L2N.Takes C.X C.W) (hN : C.X.N[k]? = some x) (hv : Vis C.X.env.scope x) (hdb : (x == ("__debug__" : Str)) = false) (hcd : (x == ("__classdict__" : Str)) = false)
    (hg : ∀ q ∈ gfs, has q.1 = true ∧ T q.1 = q.2 ∧ C.X.mg q.2 = some (.ref (He.ga C.X.K q.2))) (hf : ∀ f, has f = true → FnC CT (T f) C f) (hst : (a :: es).any isStar = false) (h : SA C (a :: es) cs) :
    SE C (.Call (.Name x p) (a :: es) [] pos) (fun ρ s => match ρ[k]? with
      | some (some (.gf i x)) => if x = "Pile" then none else bnd (cs ρ s) fun xs s1 => CT i xs s1
      | _ => none) := by
  rw [List.any_cons, Bool.or_eq_false_iff] at hst
  refine PE.imp (pe_callDyn (CX := L2N.CX C.X.prog C.X.w) (E := WE C.W) hN hv (fun σ => L2N.passAt tk σ) h hdb hcd (starEach_cons hst.1) (noStar_any hst.2)) fun σ H Q ⟨ρ, m, s, hR, hP⟩ => ?_
  dsimp only at hP
  split at hP
  · rename_i i y e
    split at hP
    · exact (show False from hP).elim
    rename_i hy
    obtain ⟨v, h1, rv, hm⟩ := hR.env k _ e
    obtain ⟨g1, g2, g3⟩ := hg _ (hm.resolve_right hy)
    obtain ⟨kk, fa, f1, f2, F, hr⟩ := hf i g1
    rw [show T i = y from g2, show C.X.mg y = _ from g3] at f1
    cases f1
    refine ⟨kk, _, _, by rw [h1, rv], hr, f2, F, ρ, m, s, hR, (PX.bnd (R := RDs C.X.K) hP).mono fun vs H1 ⟨xs, m1, s1, t1, S, rx, q⟩ => ?_⟩
    exact ⟨C.L, m1, s1, xs, Nat.le_trans hR.base t1.slen, S, rx, q⟩
  · exact (show False from hP).elim
end
end EV

/-! list comprehensions -/
namespace EV
open PySem PySem.Spec PyProof.Rows L2
section
variable {C : Ct} {m m1 m2 mu mu' : Pl} {H H1 H2 : Hp} {s s1 s2 : Sto} {ρ : Env} {σ : L2.St} {K : PySem.W.Frag} {L : Nat} {Dd : Addr}
theorem Mv.hide {o : HO} (h : H Dd = none) : Mv m H (m.hide Dd) (upd H Dd o) :=
  ⟨fun _ _ e => e, fun a vs e n => ⟨by rw [upd_ne (ne_of_none e h)]; exact e, fun z => by
    rcases z with z | z
    · exact n (.inl z)
    · rcases List.mem_cons.mp z with z | z
      · rw [z, h] at e
        cases e
      · exact n (.inr z)⟩, fun a u e _ _ _ => by rw [upd_ne (ne_of_none e h)]; exact e⟩
theorem Mv.unhide : Mv (m.hide Dd) H m H := ⟨fun _ _ e => e, fun a vs e n => ⟨e, fun z => n (z.elim .inl fun z => .inr (List.mem_cons_of_mem _ z))⟩, fun _ _ e _ _ _ => e⟩
theorem Mv.updH {o : HO} {xs : List V} (h : H Dd = some (.lst xs)) : Mv (m.hide Dd) H (m.hide Dd) (upd H Dd o) := by
  refine ⟨fun _ _ e => e, fun a vs e n => ⟨?_, n⟩, fun a u e k _ _ => ?_⟩
  · rw [upd_ne (fun z => n (.inr (by rw [z]; exact List.mem_cons_self)))]
    exact e
  · rw [upd_ne (fun z => by rw [z, h] at e; cases e; exact k _ rfl)]
    exact e
theorem SRel.hide {xs : List V} (S : SRel K m s H) (h : H Dd = none) : SRel K (m.hide Dd) s (upd H Dd (.lst xs)) := by
  refine ⟨S.len, S.nd, fun n c e => ?_, fun z hz => ?_, S.tab.ext fun a o e => by rw [upd_ne (ne_of_none e h)]; exact e⟩
  · obtain ⟨a, h1, h2⟩ := S.cell n c e
    obtain ⟨o, q, _⟩ := S.held (List.mem_of_getElem? h1)
    exact ⟨a, h1, h2.mv (Mv.hide h) (upd_ne (ne_of_none q h))⟩
  · rcases List.mem_cons.mp hz with e | hz
    · subst e
      exact ⟨fun q => S.no h (.inl q), _, upd_same⟩
    · obtain ⟨h1, o, h2⟩ := S.hid z hz
      exact ⟨h1, o, by rw [upd_ne (ne_of_none h2 h)]; exact h2⟩
theorem SRel.unhide (S : SRel K (m.hide Dd) s H) : SRel K m s H :=
  ⟨S.len, S.nd, fun n c e => let ⟨a, h1, h2⟩ := S.cell n c e; ⟨a, h1, h2.mv Mv.unhide rfl⟩, fun z hz => S.hid z (List.mem_cons_of_mem _ hz), S.tab⟩
theorem SRel.updH {xs ys : List V} (S : SRel K (m.hide Dd) s H) (h : H Dd = some (.lst xs)) : SRel K (m.hide Dd) s (upd H Dd (.lst ys)) := by
  have hn : Dd ∉ m.a := (S.hid Dd List.mem_cons_self).1
  refine ⟨S.len, S.nd, fun n c e => ?_, fun z hz => ?_, S.tab.write h⟩
  · obtain ⟨a, h1, h2⟩ := S.cell n c e
    refine ⟨a, h1, h2.mv (Mv.updH h) (upd_ne fun q => hn ?_)⟩
    rw [← q]
    exact List.mem_of_getElem? h1
  · obtain ⟨h1, o, h2⟩ := S.hid z hz
    refine ⟨h1, ?_⟩
    by_cases e : z = Dd
    · subst e
      exact ⟨_, upd_same⟩
    · exact ⟨o, by rw [upd_ne e]; exact h2⟩
theorem Later.unhide (l : Later (m.hide Dd) H (mu.hide Dd) H1) : Later m H mu H1 := ⟨l.pre, (List.cons.inj l.hid).2, l.keep, l.hold⟩
theorem Step.unhide (t : Step L (m.hide Dd) s H (mu.hide Dd) s1 H1) : Step L m s H mu s1 H1 := ⟨t.later.unhide, t.slen, t.kept⟩
/-- a list that is being made changes: nothing that stood at H does -/
theorem Step.updD {o : HO} (h : H Dd = none) (t : Step L m s H mu s1 H1) : Step L m s H mu s1 (upd H1 Dd o) :=
  ⟨⟨t.later.pre, t.later.hid, fun a u e n => by
    rw [upd_ne (ne_of_none e h)]
    exact t.later.keep a u e n, fun a u e n k q => by
    rw [upd_ne (ne_of_none e h)]
    exact t.later.hold a u e n k q⟩, t.slen, t.kept⟩
/-- the places behind an evaluation under something hidden -/
theorem Later.rehide (l : Later (m.hide Dd) H mu H1) : ∃ mv : Pl, mu = mv.hide Dd := ⟨⟨mu.a, m.h⟩, by
  have e := l.hid
  cases mu with
  | mk a h =>
    have e' : h = Dd :: m.h := e
    rw [e']
    rfl⟩

theorem wipe_at {vs : List Nat} {i : Nat} (h : i ∈ vs) (hl : i < σ.length) : (wipe σ vs)[i]? = some none := by
  induction vs with
  | nil => cases h
  | cons v vs ih =>
    unfold wipe
    by_cases e : v = i
    · subst e
      rw [List.getElem?_set_self (by rw [wipe_length]; exact hl)]
    · rw [List.getElem?_set_ne e]
      rcases List.mem_cons.mp h with z | z
      · exact absurd z.symm e
      · exact ih z
theorem wipe_ext {σ σ' : L2.St} {vs : List Nat} (hl : σ'.length = σ.length) (h : ∀ i : Nat, i ∉ vs → σ'[i]? = σ[i]?) : wipe σ' vs = wipe σ vs := by
  apply List.ext_getElem?
  intro i
  by_cases hi : i ∈ vs
  · by_cases hz : i < σ.length
    · rw [wipe_at hi hz, wipe_at hi (by omega)]
    · rw [List.getElem?_eq_none (by rw [wipe_length]; omega), List.getElem?_eq_none (by rw [wipe_length]; omega)]
  · rw [wipe_out hi, wipe_out hi, h i hi]
theorem wipe_wipe {vs : List Nat} : wipe (wipe σ vs) vs = wipe σ vs := wipe_ext (wipe_length σ vs) fun i hi => wipe_out hi
theorem wipeE_len : ∀ vs : List Nat, (wipeE ρ vs).length = ρ.length
  | [] => rfl
  | v :: vs => by
    unfold wipeE
    rw [List.length_set, wipeE_len vs]
theorem wipeE_some : ∀ {vs : List Nat} {i : Nat} {d : D}, (wipeE ρ vs)[i]? = some (some d) → ρ[i]? = some (some d) ∧ i ∉ vs
  | [], i, d, h => ⟨h, by simp⟩
  | v :: vs, i, d, h => by
    unfold wipeE at h
    by_cases e : v = i
    · subst e
      by_cases hz : v < (wipeE ρ vs).length
      · rw [List.getElem?_set_self hz] at h
        cases h
      · rw [List.getElem?_eq_none (by rw [List.length_set]; omega)] at h
        cases h
    · rw [List.getElem?_set_ne e] at h
      obtain ⟨h1, h2⟩ := wipeE_some h
      exact ⟨h1, fun z => (List.mem_cons.mp z).elim (fun z => e z.symm) h2⟩
theorem Rel'.wipe (r : Rel' K L m s H ρ σ) (vs : List Nat) : Rel' K L m s H (wipeE ρ vs) (wipe σ vs) :=
  ⟨r.sr, r.base, by rw [wipeE_len, wipe_length]; exact r.len, fun i d h => by
    obtain ⟨h1, h2⟩ := wipeE_some h
    obtain ⟨v, h3, h4⟩ := r.env i d h1
    exact ⟨v, by rw [wipe_out h2]; exact h3, h4⟩⟩
theorem Rel'.mv (r : Rel' K L m s H ρ σ) (l : Mv m H m1 H1) (S : SRel K m1 s1 H1) (hl : s.length ≤ s1.length) : Rel' K L m1 s1 H1 ρ σ :=
  ⟨S, Nat.le_trans r.base hl, r.len, fun i d h => by
    obtain ⟨v, h1, h2⟩ := r.env i d h
    exact ⟨v, h1, RD.mv l d v h2⟩⟩

/-- one item of a comprehension -/
def item (CT : CTb) (tg elt cond : E) (own : List Nat) (ρ : Env) (x : D) (s2 : Sto) : Option (Out (Option D)) :=
  match bindT tg x (wipeE ρ own) with
  | none => none
  | some ρ' => match ev CT cond ρ' s2 with
    | some (.ok (.bl true) s3) => match ev CT elt ρ' s3 with
      | some (.ok y s4) => some (.ok (some y) s4)
      | _ => none
    | some (.ok (.bl false) s3) => some (.ok none s3)
    | _ => none
theorem item_cases {CT : CTb} {tg elt cond : E} {own : List Nat} {x : D} {y : Option D} {s4 : Sto} (h : item CT tg elt cond own ρ x s2 = some (.ok y s4)) :
    ∃ ρ', bindT tg x (wipeE ρ own) = some ρ' ∧ ((∃ s3 d, ev CT cond ρ' s2 = some (.ok (.bl true) s3) ∧ ev CT elt ρ' s3 = some (.ok d s4) ∧ y = some d) ∨ (ev CT cond ρ' s2 = some (.ok (.bl false) s4) ∧ y = none)) := by
  unfold item at h
  split at h
  · cases h
  · rename_i ρ' e
    refine ⟨ρ', e, ?_⟩
    split at h
    · rename_i s3 e2
      split at h
      · rename_i d s4' e3
        cases h
        exact .inl ⟨s3, d, e2, e3, rfl⟩
      · cases h
    · rename_i s3 e2
      cases h
      exact .inr ⟨e2, rfl⟩
    · cases h
theorem compL_nil {f : D → Sto → Option (Out (Option D))} {ys : List D} {s5 : Sto} (h : compL f [] s = some (.ok ys s5)) : ys = [] ∧ s5 = s := by
  cases h
  exact ⟨rfl, rfl⟩
theorem compL_cons {f : D → Sto → Option (Out (Option D))} {x : D} {xs ys : List D} {s5 : Sto} (h : compL f (x :: xs) s = some (.ok ys s5)) :
    ∃ y s1 zs, f x s = some (.ok y s1) ∧ compL f xs s1 = some (.ok zs s5) ∧ ys = (match y with | some y => y :: zs | none => zs) := by
  unfold compL at h
  split at h
  · rename_i y s1 e
    split at h
    · rename_i zs s2 e2
      cases h
      exact ⟨y, s1, zs, e, e2, rfl⟩
    · cases h
  · cases h

/-- the context of a comprehension's block -/
abbrev Ct.blk (C : Ct) (X : Cx) : Ct := { C with X := X, W := fun _ _ _ _ => False }
variable {CT : CTb} {elt tg iter : Expr} {eE eT eI eC : E} {ifs : List Expr} {scope : Scope} {pos : Pos} {own : List (Str × Nat)}
/-- the reading of a comprehension -/
theorem SRel.unhideAdd {acc : List D} {accV : List V} (S : SRel K (m.hide Dd) s H) (hn : Dd ∉ m.a) (hh : Dd ∉ m.h) (hc : H Dd = some (.lst accV)) (rc : RDs K (m.hide Dd) H acc accV) : SRel K (m.add Dd) (s ++ [.lst acc]) H := by
  have mv : Mv (m.hide Dd) H (m.add Dd) H := by
    refine ⟨fun n a e => ?_, fun a vs e n => ⟨e, fun z => n ?_⟩, fun _ _ e _ _ _ => e⟩
    · have e : m.a[n]? = some a := e
      show (m.a ++ [Dd])[n]? = some a
      rw [List.getElem?_append_left (List.getElem?_eq_some_iff.mp e).1]
      exact e
    · rcases z with z | z
      · rcases List.mem_append.mp z with z | z
        · exact .inl z
        · exact .inr (by rw [List.mem_singleton.mp z]; exact List.mem_cons_self)
      · exact .inr (List.mem_cons_of_mem _ z)
  have hl : m.a.length = s.length := S.len
  refine ⟨?_, ?_, fun n c e => ?_, fun z hz => ?_, S.tab⟩
  · show (m.a ++ [Dd]).length = _
    rw [List.length_append, List.length_append, hl]
    rfl
  · show (m.a ++ [Dd]).Nodup
    rw [List.nodup_append]
    refine ⟨S.nd, by simp, fun a ha b hb e => ?_⟩
    rw [List.mem_singleton.mp hb] at e
    rw [e] at ha
    exact hn ha
  · by_cases hk : n < s.length
    · rw [List.getElem?_append_left hk] at e
      obtain ⟨a, h1, h2⟩ := S.cell n c e
      exact ⟨a, mv.at_ _ _ h1, h2.mv mv rfl⟩
    · have en : n = s.length := by
        have := (List.getElem?_eq_some_iff.mp e).1
        rw [List.length_append] at this
        simp at this
        omega
      subst en
      rw [List.getElem?_concat_length] at e
      cases e
      refine ⟨Dd, ?_, accV, hc, RDs.mv mv _ _ rc⟩
      show (m.a ++ [Dd])[_]? = _
      rw [← hl, List.getElem?_concat_length]
  · obtain ⟨h1, xs, h2⟩ := S.hid z (List.mem_cons_of_mem _ hz)
    refine ⟨fun q => ?_, xs, h2⟩
    rcases List.mem_append.mp q with q | q
    · exact h1 q
    · rw [List.mem_singleton.mp q] at hz
      exact hh hz
theorem lc_use {Q : VK} {mm : Bool} (hsub : ∀ i ∈ slots eT, i ∈ own.map (·.2)) (h : tG C (RD C.X.K) (fun ρ s => match evi CT eI ρ s with
    | some (.ok xs s1) => match compL (item CT eT eE eC (own.map (·.2)) ρ) xs s1 with
      | some (.ok ys s5) => fresh mm ys s5
      | _ => none
    | _ => none) σ H Q) :
    tLc (tG C (RI C.X.K) (evi CT eI)) (tT C.X.K C.L eT) (tG' C.X.K C.ca C.L (fun _ _ _ _ => False) RB fun ρ s => tst (ev CT eC ρ s)) (tG' C.X.K C.ca C.L (fun _ _ _ _ => False) (RD C.X.K) (ev CT eE)) (own.map (·.2)) σ H Q := by
  obtain ⟨ρ, m, s, hR, hP⟩ := h
  refine ⟨ρ, m, s, hR, ?_⟩
  dsimp only at hP
  split at hP
  · rename_i xs s1 e1
    rw [e1]
    intro m1 H1 J t1 S1 rJ
    split at hP
    · rename_i ys s5 e2
      unfold fresh at hP
      split at hP
      · rename_i hz
        intro Dd hD
        have hDh : Dd ∉ m1.h := fun z => by
          obtain ⟨_, o, q⟩ := S1.hid _ z
          rw [hD] at q
          cases q
        refine ⟨fun i n Hc => n = xs.length - i ∧ i ≤ xs.length ∧ ∃ (mu : Pl) (sc : Sto) (acc : List D) (accV : List V) (ysr : List D), Step C.L m1 s1 H1 mu sc Hc ∧ SRel C.X.K (mu.hide Dd) sc Hc ∧ Hc Dd = some (.lst accV) ∧
          RDs C.X.K (mu.hide Dd) Hc acc accV ∧ Mv m1 H1 (mu.hide Dd) Hc ∧ compL (item CT eT eE eC (own.map (·.2)) ρ) (xs.drop i) sc = some (.ok ysr s5) ∧ ys = acc ++ ysr, ⟨xs.length, rfl, Nat.zero_le _, m1, s1, [], [], ys, Step.new hD, S1.hide hD, upd_same, rfl, Mv.hide hD, e2, rfl⟩, ?_⟩
        rintro i n Hc ⟨rfl, hi, mu, sc, acc, accV, ysr, tc, Sc, hc, rc, mc, ec, ey⟩
        obtain ⟨q1, q2⟩ := rJ (mu.hide Dd) Hc mc
        by_cases hlt : i < xs.length
        · right
          obtain ⟨go, yl⟩ := q1 i xs[i] (List.getElem?_eq_getElem hlt)
          refine ⟨go, fun H' => ∃ n', n' < xs.length - i ∧ (n' = xs.length - (i + 1) ∧ i + 1 ≤ xs.length ∧ ∃ (mu : Pl) (sc : Sto) (acc : List D) (accV : List V) (ysr : List D), Step C.L m1 s1 H1 mu sc H' ∧ SRel C.X.K (mu.hide Dd) sc H' ∧ H' Dd = some (.lst accV) ∧
            RDs C.X.K (mu.hide Dd) H' acc accV ∧ Mv m1 H1 (mu.hide Dd) H' ∧ compL (item CT eT eE eC (own.map (·.2)) ρ) (xs.drop (i + 1)) sc = some (.ok ysr s5) ∧ ys = acc ++ ysr), fun H' z => z, fun v H2 y2 => ?_⟩
          obtain ⟨same, lt2, rv⟩ := yl v H2 y2
          rw [List.drop_eq_getElem_cons hlt] at ec
          obtain ⟨y, s2, zs, f1, f2, f3⟩ := compL_cons ec
          obtain ⟨ρ', g1, g2⟩ := item_cases f1
          have S2 : SRel C.X.K (mu.hide Dd) sc H2 := Sc.same lt2 same
          have mv2 : Mv m1 H1 (mu.hide Dd) H2 := mc.trans lt2.mv
          have hR2 : Rel' C.X.K C.L (mu.hide Dd) sc H2 ρ σ := Rel'.mv (hR.step t1 S1) mv2 S2 tc.slen
          have tc2 : Step C.L m1 s1 H1 mu sc H2 := tc.trans ⟨lt2.unhide, Nat.le_refl _, fun k _ c' h => ⟨c', h, fun d hd => .inr hd⟩⟩
          refine ⟨wipeE ρ (own.map (·.2)), mu.hide Dd, sc, xs[i], ρ', hR2.wipe _, rv, g1, fun σ' hR3 ho => ?_⟩
          refine ⟨(wipe_ext ho.1 fun k hk => ho.2 k fun z => hk (hsub k z)).trans wipe_wipe, ?_⟩
          refine ⟨ρ', mu.hide Dd, sc, hR3, ?_⟩
          rcases g2 with ⟨s3, d, h1, h2, h3⟩ | ⟨h1, h3⟩
          · show PX C.X.K C.ca C.L RB (mu.hide Dd) sc H2 (tst (ev CT eC ρ' sc)) _ _
            rw [h1]
            intro m3 H3 b t3 S3 eb
            have eb : true = b := eb
            subst eb
            rw [if_pos rfl]
            refine ⟨ρ', m3, s3, ?_, ?_⟩
            · exact Rel'.mv hR3 t3.later.mv S3 t3.slen
            · rw [h2]
              intro m4 H4 w t4 S4 rw4
              obtain ⟨mu3, e3⟩ := t3.later.rehide
              subst e3
              obtain ⟨mu4, e4⟩ := t4.later.rehide
              subst e4
              have hn : Dd ∉ (mu.hide Dd).a := (Sc.hid Dd List.mem_cons_self).1
              have hH4 : H4 Dd = some (.lst accV) := by
                obtain ⟨a1, a2⟩ := lt2.keep Dd _ hc hn fun _ => by simp
                obtain ⟨a3, a4⟩ := t3.later.keep Dd _ a1 a2 fun _ => by simp
                exact (t4.later.keep Dd _ a3 a4 fun _ => by simp).1
              subst h3
              have ey' : ys = (acc ++ [d]) ++ zs := by rw [ey, f3, List.append_assoc]; rfl
              refine ⟨accV, hH4, ?_, xs.length - (i + 1), by omega, rfl, hlt, mu4, s2, acc ++ [d], accV ++ [w], zs, ?_, S4.updH hH4, upd_same, ?_, ?_, f2, ey'⟩
              · have := rc.length
                rw [ey'] at hz
                simp only [List.length_append, List.length_cons, List.length_nil] at hz
                omega
              · exact Step.updD hD ((tc2.trans t3.unhide).trans t4.unhide)
              · refine RDs.mv (Mv.updH hH4) _ _ (RDs.append ?_ ⟨w, [], rfl, rw4, rfl⟩)
                exact RDs.later t4.later _ _ (RDs.later t3.later _ _ (RDs.later lt2 _ _ rc))
              · exact ((mv2.trans t3.later.mv).trans t4.later.mv).trans (Mv.updH hH4)
          · show PX C.X.K C.ca C.L RB (mu.hide Dd) sc H2 (tst (ev CT eC ρ' sc)) _ _
            rw [h1]
            intro m3 H3 b t3 S3 eb
            have eb : false = b := eb
            subst eb
            rw [if_neg Bool.false_ne_true]
            obtain ⟨mu3, e3⟩ := t3.later.rehide
            subst e3
            have hn : Dd ∉ (mu.hide Dd).a := (Sc.hid Dd List.mem_cons_self).1
            have hH3 : H3 Dd = some (.lst accV) := by
              obtain ⟨a1, a2⟩ := lt2.keep Dd _ hc hn fun _ => by simp
              exact (t3.later.keep Dd _ a1 a2 fun _ => by simp).1
            subst h3
            exact ⟨xs.length - (i + 1), by omega, rfl, hlt, mu3, s2, acc, accV, zs, tc2.trans t3.unhide, S3, hH3, RDs.later t3.later _ _ (RDs.later lt2 _ _ rc), mv2.trans t3.later.mv, f2, by rw [ey, f3]⟩
        · have ei : i = xs.length := by omega
          subst ei
          refine .inl ⟨q2, ?_⟩
          rw [List.drop_length] at ec
          obtain ⟨c1, c2⟩ := compL_nil ec
          subst c1 c2
          rw [List.append_nil] at ey
          subst ey
          have hh : mu.h = m1.h := tc.later.hid
          have hDa : Dd ∉ mu.a := (Sc.hid Dd List.mem_cons_self).1
          have hDm : Dd ∉ mu.h := by
            rw [hh]
            exact hDh
          cases mm with
          | false =>
            refine hP mu Hc _ (t1.trans tc) Sc.unhide ⟨Dd, accV, rfl, fun z => ?_, hc, RDs.mv Mv.unhide _ _ rc⟩
            rcases z with z | z
            · exact hDa z
            · exact hDm z
          | true =>
            have t2 := t1.trans tc
            have ta : Step C.L m1 s1 H1 (mu.add Dd) (s5 ++ [.lst ys]) Hc := by
              refine ⟨Later.add hD tc.later, by rw [List.length_append]; have := tc.slen; omega, fun n hn c' h => ?_⟩
              have hl1 := Nat.le_trans hR.base t2.slen
              rw [List.getElem?_append_left (by omega)] at h
              exact tc.kept n hn c' h
            refine hP (mu.add Dd) Hc _ (t1.trans ta) (Sc.unhideAdd hDa hDm hc rc) ⟨Dd, rfl, ?_⟩
            show (mu.a ++ [Dd])[_]? = _
            have hl : mu.a.length = s5.length := Sc.len
            rw [← hl, List.getElem?_concat_length]
      · exact (show False from hP).elim
    · exact (show False from hP).elim
  · exact (show False from hP).elim
end
end EV

set_option maxHeartbeats 2000000
/-! rules for a class that HandS lacks: o.m() by a positional promise, C(..) by any name, len(o) by an own __len__, == of instances by an own __eq__ -/
namespace EV
open PySem PySem.Spec PyProof.Rows L2
section
variable {X : Cx} {CX : CXT} {k n : Nat} {C f : Addr} {m : Str} {sp : Sp} {E : XK} {o e : Expr} {es : List Expr} {ta tf : TE} {t tk : TA} {apos pos p : Pos} {pl : Sem Bool} {x : Str}
theorem pe_methR0 (he : PE X o ta) (c : Cls X.K C) (hm : Meth X.K C m f) (F : FnR X.prog X.w X.K X.mg X.base CX k f sp) (hr : Room k X.A) (hx : Passes CX X E)
    (ht : eval (.Call (.Attribute o m apos) [] [] pos) X.env = (do
      let ov ← eval o X.env
      standAt apos.atName
      let (f, first) ← holding [ov] (getMethod ov m pl)
      callWith pos f first (backTo pos (starEach [] X.env)) (backToKw pos (keywordEach [] X.env))) := by rfl) :
    PE X (.Call (.Attribute o m apos) [] [] pos) (tMethR C m sp E ta tNil) := by
  refine ⟨fun pins s σ H Q I h => ?_⟩
  refine PySem.W.methodCall_KW (pl := pl) (thn (he.run pins s σ H _ I h) fun u s1 ⟨x, H1, I1, rx, a, dx, fs, ex, ea, l, q⟩ => ?_) ht
  subst ex
  obtain rfl : u = Value.ref a := rx
  refine getmeth_ok I1 ea c hm l ?_
  exact PySem.W.callWith_K0 (first := [.ref a]) I1.kIn hm.kp (wpAny_call (run_fnR (us := [.ref a]) (vs := [.ref a]) F hr hx I1 (.cons rfl .nil) q))
/-- C(e, .., k = v, ..), the class held by whatever name -/
def tMakeG (C : Addr) (n m : Nat) (sp : Sp) (gV : List V → List V → List V) (E : XK) (tf : TE) (t tk : TA) : TE := fun σ H Q => tf σ H fun v H0 => v = .ref C ∧ tMakeK C n m sp gV E t tk σ H0 Q
theorem pe_makeG {fd : FuncData} {ps ks : List Str} {kws : List Keyword} {g : List Value → List Value → List Value} {gV : List V → List V → List V}
    (hf : PE X (.Name x p) tf) (hdb : (x == ("__debug__" : Str)) = false) (M : Mk X.K C f) (F : FnOk X.prog X.w X.K X.mg X.base CX k f fd ps sp) (hr : ∀ vs H Q E, sp vs H Q E → Room (k + 1) X.A) (hb : KBn X.K fd ps (n + 1) ks g gV) (hx : Passes CX X E) (ha : PA X (e :: es) t) (hkw : PK X kws tk)
    (hall : (backToKw pos (keywordEach kws X.env)).all (·.1.isSome) = true) (hks : (backToKw pos (keywordEach kws X.env)).filterMap (·.1) = ks)
    (he : starEach (e :: es) X.env = (false, eval e X.env) :: starEach es X.env) (hpl : ((backTo pos (starEach (e :: es) X.env)).any (·.1) || (backToKw pos (keywordEach kws X.env)).any (·.1.isNone)) = false) :
    PE X (.Call (.Name x p) (e :: es) kws pos) (tMakeG C n ks.length sp gV E tf t tk) := by
  refine ⟨fun pins s σ H Q I h => ?_⟩
  refine wpAny_Call_Name_kw (thn (hf.run pins s σ H _ I h) fun u s0 ⟨v, H0, I0, r0, ev, q0⟩ => ?_)
  subst ev
  obtain rfl : u = Value.ref C := r0
  refine PySem.W.callWith_KW (h₀ := X.base) I0.ok.mod.kin M.kp hall (thn (ha.run pos pins s0 σ H0 _ I0 q0) fun us s1 ⟨vs, H1, I1, r, q⟩ => ?_) hpl he
  refine thn (hkw.run pos pins s1 σ H1 _ I1 q) fun ws s2 ⟨zs, H2, I2, rz, l1, l2, q2⟩ => ⟨I2.kIn, ?_⟩
  rw [hks]
  exact run_makeK M F (hr _ _ _ _ (q2 (s2.heap.objs.size + 1) s2.heap.objs.size (I2.hok.fresh (Nat.le_succ _)) (I2.hok.fresh (Nat.le_refl _)) (Nat.ne_of_lt (Nat.lt_succ_self _)))) hb hx I2 r rz l1 l2 q2
/-- .. without keywords -/
theorem pe_makeG0 {fd : FuncData} {ps : List Str} {g : List Value → List Value → List Value} {gV : List V → List V → List V}
    (hf : PE X (.Name x p) tf) (hdb : (x == ("__debug__" : Str)) = false) (M : Mk X.K C f) (F : FnOk X.prog X.w X.K X.mg X.base CX k f fd ps sp) (hr : ∀ vs H Q E, sp vs H Q E → Room (k + 1) X.A) (hb : KBn X.K fd ps (n + 1) [] g gV) (hx : Passes CX X E) (ha : PA X (e :: es) t)
    (he : starEach (e :: es) X.env = (false, eval e X.env) :: starEach es X.env) (hpl : (backTo pos (starEach es X.env)).any (·.1) = false) :
    PE X (.Call (.Name x p) (e :: es) [] pos) (tMakeG C n 0 sp gV E tf t tNil) := by
  refine ⟨fun pins s σ H Q I h => ?_⟩
  refine wpAny_Call_Name_kw (thn (hf.run pins s σ H _ I h) fun u s0 ⟨v, H0, I0, r0, ev, q0⟩ => ?_)
  subst ev
  obtain rfl : u = Value.ref C := r0
  refine PySem.W.callWith_K (h₀ := X.base) I0.ok.mod.kin M.kp (thn (ha.run pos pins s0 σ H0 _ I0 q0) fun us s1 ⟨vs, H1, I1, r, l1, _, q⟩ => ⟨I1.kIn, ?_⟩) he hpl
  exact run_makeK (ws := []) (zs := []) (ks := []) M F (hr _ _ _ _ (q (s1.heap.objs.size + 1) s1.heap.objs.size (I1.hok.fresh (Nat.le_succ _)) (I1.hok.fresh (Nat.le_refl _)) (Nat.ne_of_lt (Nat.lt_succ_self _)))) hb hx I1 r .nil l1 rfl q
/-! ### len(o) -/
def rLenOwn (C : Addr) (sp : Sp) (E : XK) : List V → Hp → VK → Prop := fun xs H Q => ∃ a dx fs, xs = [V.ref a] ∧ H a = some (.ins C dx fs) ∧ sp [.ref a] H (fun z H' => ∃ i : Int, z = .int i ∧ 0 ≤ i ∧ i < 2 ^ 63 ∧ Q z H') E
theorem call_lenOwn (hs : PySem.W.findIn X.K (.ref C) "__len__" = some (some (.ref f))) (hf : PySem.W.isFn X.K (.ref f) = true) (F : FnR X.prog X.w X.K X.mg X.base CX n f sp) (hr : Room (n + 1) X.A) (hx : Passes CX X E) : CallR X (.builtin "len") (rLenOwn C sp E) := by
  intro pins s σ H xs us Q I r h
  obtain ⟨a, dx, fs, rfl, ha, q⟩ := h
  obtain ⟨u, rfl, ru⟩ := r.one
  cases (show u = Value.ref a from ru)
  obtain ⟨mA, O, _⟩ := ins_get I.hok ha
  obtain ⟨od, J, _⟩ := O.look
  refine Calls.call_function_entry kind_len plain_len entry_len (args_len1 _) ?_
  unfold Builtin.«len»
  refine wpAny_bind (m := oneArg "len" _) (wpAny_pure ?_)
  refine wpAny_bind (m := callSpecial? (.ref a) (Str.ofString "__len__")) (PySem.W.special_fn I.kIn J hs (beq_iff_eq.mp hf) (wpAny_mono (wpAny_call (SlX.run_at (us := [.ref a]) (ws := [.ref a]) F hr.in1 I.env0.in1 hx I (.cons rfl .nil) q)) (fun w s' z => ?_) fun _ _ x => x))
  obtain ⟨z', H', I', rz, i, ei, h0, h1, qz⟩ := z
  subst ei
  obtain ⟨t, e⟩ := (show ∃ t, w = Value.int i t from rz)
  cases e
  refine wpAny_bind (wpAny_holding (wpAny_pure ?_))
  refine wpAny_bind (wpAny_letGo ?_)
  show wpAny _ _ (if i < 0 then _ else _) _ _ _
  rw [if_neg (by omega)]
  show wpAny _ _ (if i ≥ 2 ^ 63 then _ else _) _ _ _
  rw [if_neg (by omega)]
  exact wpAny_bind (wpAny_mkInt (wpAny_pure ⟨_, rfl, .int i, H', I'.tok _, ⟨_, rfl⟩, qz⟩))
end
end EV

set_option maxHeartbeats 2000000
/-! the class Pile: fields, methods, properties, instances made -/
namespace EV
open PySem PySem.Spec PyProof.Rows L2
/-- where the class stands -/
abbrev pilA (K : PySem.W.Frag) : Addr := He.ga K "Pile"
/-- what must be known of the class -/
structure PileF (K : PySem.W.Frag) (mg : Str → Option Value) : Prop where
  cls : Cls K (pilA K)
  rd : ClX.CRead K (pilA K) (.type "type")
  noat : ∀ k ∈ pfields, NoAttr K (pilA K) k
  mg : mg "Pile" = some (.ref (pilA K))
/-- the wish about exceptions does not look at the slots -/
def CW (C : Ct) : Prop := ∀ σ σ' : L2.St, WE C.W σ = WE C.W σ'
/-- the promise of an __init__: its instance is the last thing of the store -/
def spI (K : PySem.W.Frag) (ca : Nat → Addr) (CT : CTb) (f : Nat) (dds : List D) : Sp := fun vs H Q E =>
  ∃ (L : Nat) (m : Pl) (s : Sto) (ds : List D), L + 1 ≤ s.length ∧ SRel K m s H ∧ RDs K m H (ds ++ dds) vs ∧ PX K ca L (RD K) m s H (CT f ds s) Q E
/-- room for one call more, or nothing is promised -/
abbrev RoomN (n : Nat) (C : Ct) (CT : CTb) (i : Nat) : Prop := Room n C.X.A ∧ (Room (n + 1) C.X.A ∨ ∀ ds s, CT i ds s = none)
/-- what a caller must know of the members of the class: a method, a property, a classmethod, __init__ without and with its keyword, len -/
def FnP (CT : CTb) (C : Ct) (i : Nat) (x : Str) : Nat → Prop
  | 0 => ∃ n g, BMeth C.X.K (pilA C.X.K) x g ∧ FnR C.X.prog C.X.w C.X.K C.X.mg C.X.base (L2N.CX C.X.prog C.X.w) n g (spF C.X.K C.ca CT i) ∧ RoomN n C CT i
  | 1 => ∃ n p g, PropOf C.X.K (pilA C.X.K) x p g ∧ FnR C.X.prog C.X.w C.X.K C.X.mg C.X.base (L2N.CX C.X.prog C.X.w) n g (spF C.X.K C.ca CT i) ∧ RoomN n C CT i
  | 2 => ∃ n p g, ClX.CMet C.X.K (pilA C.X.K) (.type "type") x p g ∧ FnR C.X.prog C.X.w C.X.K C.X.mg C.X.base (L2N.CX C.X.prog C.X.w) n g (spF C.X.K C.ca CT i) ∧ RoomN n C CT i
  | k + 3 => ∃ n g fd ps gg gV dds, Mk C.X.K (pilA C.X.K) g ∧ FnOk C.X.prog C.X.w C.X.K C.X.mg C.X.base (L2N.CX C.X.prog C.X.w) n g fd ps (spI C.X.K C.ca CT i dds) ∧ KBn C.X.K fd ps 2 (if k = 0 then [] else ["multiple"]) gg gV ∧
    (∀ m H ds vs zs, vs.length = 2 → zs.length = (if k = 0 then 0 else 1) → RDs C.X.K m H ds (vs ++ zs) → RDs C.X.K m H (ds ++ dds) (gV vs zs)) ∧ RoomN n C CT i
section
variable {C : Ct} {m m1 m2 : Pl} {H H1 H2 : Hp} {s s1 s2 : Sto} {ρ : Env} {σ : L2.St} {K : PySem.W.Frag} {L : Nat}
variable {a b c x y z : Expr} {ca cb cc : Env → Sto → Option (Out D)} {pos p apos : Pos} {es : List Expr} {cs : Env → Sto → Option (Out (List D))} {CT : CTb} {nm : Str} {f : Nat}
theorem pass_of (tk : L2N.Takes C.X C.W) (cw : CW C) : Passes (L2N.CX C.X.prog C.X.w) C.X (WE C.W []) := fun pins σ H s e s' I c => L2N.passAt tk σ pins H s e s' I (by rw [cw σ []]; exact c)
theorem pass_no {X : Cx} : Passes (L2N.CX X.prog X.w) X (fun _ _ _ => False) := fun pins σ H s e s' I c => L2N.passAt takes0N σ pins H s e s' I c
theorem PX.wish {α β : Type} {R : Pl → Hp → α → β → Prop} {o : Option (Out α)} {Q : β → Hp → Prop} (cw : CW C) (h : P C R σ m s H o Q) : PX C.X.K C.ca C.L R m s H o Q (WE C.W []) := by
  rw [cw [] σ]
  exact h
theorem RFs.look : ∀ {fs : List (Str × D)} {vs : List (Str × V)} {k : Str} {d : D}, RFs K m H fs vs → fs.lookup k = some d → ∃ v, vs.lookup k = some v ∧ RD K m H d v
  | [], _, _, _, _, e => nomatch e
  | (j, x) :: fs, vs, k, d, h, e => by
    obtain ⟨v, r, rfl, h1, h2⟩ := h
    rw [List.lookup_cons] at e
    rw [List.lookup_cons]
    split at e
    · cases e
      exact ⟨v, rfl, h1⟩
    · exact RFs.look h2 e
theorem RFs.none : ∀ {fs : List (Str × D)} {vs : List (Str × V)} {k : Str}, RFs K m H fs vs → (∀ q ∈ fs, q.1 ∈ pfields) → k ∉ pfields → vs.lookup k = none
  | [], vs, _, h, _, _ => by
    rw [show vs = [] from h]
    rfl
  | (j, x) :: fs, vs, k, h, hp, hk => by
    obtain ⟨v, r, rfl, h1, h2⟩ := h
    rw [List.lookup_cons]
    have hj : j ∈ pfields := hp (j, x) List.mem_cons_self
    have e : (k == j) = false := by
      rw [beq_eq_false_iff_ne]
      intro z
      exact hk (z ▸ hj)
    rw [e]
    exact RFs.none h2 (fun q hq => hp q (List.mem_cons_of_mem _ hq)) hk
theorem RFs.put {k : Str} {d : D} {v : V} (rd : RD K m H d v) : ∀ {fs : List (Str × D)} {vs : List (Str × V)}, RFs K m H fs vs → RFs K m H (putD k d fs) (putF k v vs)
  | [], vs, h => by
    rw [show vs = [] from h]
    exact ⟨v, [], rfl, rd, rfl⟩
  | (j, x) :: fs, vs, h => by
    obtain ⟨u, r, rfl, h1, h2⟩ := h
    unfold putD putF
    by_cases e : j = k
    · subst e
      rw [if_pos rfl, if_pos rfl]
      exact ⟨v, r, rfl, rd, h2⟩
    · rw [if_neg e, if_neg e]
      exact ⟨u, _, rfl, h1, RFs.put rd h2⟩
theorem isPil_val {x : D} {v : V} (S : SRel K m s H) (rx : RD K m H x v) (e : isPil s x = true) : ∃ n a dx fs vs, x = .loc n ∧ v = .ref a ∧ m.a[n]? = some a ∧ s[n]? = some (.ins fs) ∧ H a = some (.ins (pilA K) dx vs) ∧ RFs K m H fs vs ∧ ∀ q ∈ fs, q.1 ∈ pfields := by
  cases x with
  | loc n =>
    obtain ⟨a, e1, ha⟩ := rx
    obtain ⟨c0, hc, rc⟩ := S.at ha
    simp only [isPil, hc] at e
    cases c0 with
    | ins fs =>
      obtain ⟨dx, vs, h1, h2, h3⟩ := rc
      exact ⟨n, a, dx, fs, vs, rfl, e1, ha, hc, h1, h2, h3⟩
    | lst xs => cases e
    | dct kvs => cases e
  | _ => cases e
/-- a.k -/
theorem se_fld {k : Str} (F : PileF C.X.K C.X.mg) (hk : k ∈ pfields) (hb : attributeBase a k C.X.env (eval a C.X.env) = eval a C.X.env) (ha : SE C a ca) : SE C (.Attribute a k pos) (fun ρ s => bnd (ca ρ s) fun x s1 => pur s1 (fldD s1 x k)) := by
  refine PE.imp (pe_fld ha hb) fun σ H Q ⟨ρ, m, s, hR, hP⟩ => ?_
  refine ⟨ρ, m, s, hR, (PX.bnd (R := RD C.X.K) hP).mono fun v H1 ⟨x, m1, s1, t1, S, rx, q⟩ => ?_⟩
  obtain ⟨d, e, q'⟩ := q.pur
  clear q
  cases x with
  | loc n =>
    obtain ⟨a, e1, ha⟩ := rx
    obtain ⟨c0, hc, rc⟩ := S.at ha
    simp only [fldD, hc] at e
    cases c0 with
    | ins fs =>
      obtain ⟨dx, vs, h1, h2, h3⟩ := rc
      obtain ⟨v', e2, r2⟩ := RFs.look h2 e
      exact ⟨a, _, dx, vs, v', e1, h1, F.cls, F.noat k hk, e2, q'.here S r2⟩
    | lst xs => cases e
    | dct kvs => cases e
  | _ => cases e
/-- the tree of a method call -/
theorem meth_tree {o : Expr} {m : Str} {args : List Expr} {env : PySem.Env} (hbase : attributeBase o m env (eval o env) = eval o env)
    (hfew : methodCallForm (args.length + ([] : List Keyword).length) (backTo pos (starEach args env)) (backToKw pos (keywordEach [] env)) = true) (hline : (apos.endLine == pos.line) = true) :
    eval (.Call (.Attribute o m apos) args [] pos) env = (do
      let ov ← eval o env
      standAt apos.atName
      let (f, first) ← holding [ov] (getMethod ov m (do return (← importBound o env).getD true))
      callWith pos f first (backTo pos (starEach args env)) (backToKw pos (keywordEach [] env))) := by
  have hpos : methodCallPos true o env apos pos = pure pos := by unfold methodCallPos; simp [hline]
  rw [arm_eval_Call, hbase]
  unfold methodCall
  simp only [hfew, hpos]
  rfl
theorem few_of {args : List Expr} {env : PySem.Env} (hst : args.any isStar = false) (hn : args.length < 20) : methodCallForm (args.length + ([] : List Keyword).length) (backTo pos (starEach args env)) (backToKw pos (keywordEach [] env)) = true := by
  have h1 : (backTo pos (starEach args env)).all (fun x => !x.1) = true := by
    have h2 := noStar_any (pos := pos) (env := env) hst
    rw [List.all_eq_true]
    intro q hq
    cases e : q.1 with
    | false => rfl
    | true =>
      have : (backTo pos (starEach args env)).any (·.1) = true := List.any_eq_true.mpr ⟨q, hq, e⟩
      rw [h2] at this
      cases this
  unfold methodCallForm
  rw [h1]
  show (true && ([] : List (Option Str × Sem Value)).all (·.1.isSome) && decide (args.length + 0 + (if ([] : List (Option Str × Sem Value)).isEmpty = true then 0 else 1) < 30)) = true
  simp
  omega
/-- o.m(..) -/
theorem mth_use {C : Ct} {ca : Env → Sto → Option (Out D)} {m' : Str} (cw : CW C) (hm : m' ∉ pfields) (σ : L2.St) (H : Hp) (Q : VK) (hq : tG C (RD C.X.K) (fun ρ s => bnd (ca ρ s) fun x s1 => if isPil s1 x = true then bnd (cs ρ s1) fun xs s2 => CT f (x :: xs) s2 else none) σ H Q) :
    tMethR (pilA C.X.K) m' (spF C.X.K C.ca CT f) (WE C.W []) (tG C (RD C.X.K) ca) (tG C (RDs C.X.K) cs) σ H Q := by
  obtain ⟨ρ, m, s, hR, hP⟩ := hq
  refine ⟨ρ, m, s, hR, (PX.bnd (R := RD C.X.K) hP).mono fun v H1 ⟨x, m1, s1, t1, S, rx, q⟩ => ?_⟩
  split at q
  · rename_i hp
    obtain ⟨n, l, dx, fs, vs, e0, e1, hl, hc, h1, h2, h3⟩ := isPil_val S rx hp
    refine ⟨l, dx, vs, e1, h1, RFs.none h2 h3 hm, ρ, m1, s1, hR.step t1 S, (PX.bnd (R := RDs C.X.K) q).mono fun us H2 ⟨xs, m2, s2, t2, S2, rxs, q2⟩ => ?_⟩
    exact ⟨C.L, m2, s2, x :: xs, Nat.le_trans hR.base (Nat.le_trans t1.slen t2.slen), S2, ⟨v, us, rfl, RD.later t2.later _ _ rx, rxs⟩, q2.wish cw⟩
  · exact (show False from q).elim
theorem se_mth {C : Ct} {a b : Expr} {ca : Env → Sto → Option (Out D)} {m' : Str} (PF : PileF C.X.K C.X.mg) (F : FnP CT C f m' 0) (tk : L2N.Takes C.X C.W) (cw : CW C) (hm : m' ∉ pfields) (hb : attributeBase a m' C.X.env (eval a C.X.env) = eval a C.X.env) (hst : (b :: es).any isStar = false) (hn : (b :: es).length < 20) (hline : (apos.endLine == pos.line) = true)
    (ha : SE C a ca) (h : SA C (b :: es) cs) : SE C (.Call (.Attribute a m' apos) (b :: es) [] pos) (fun ρ s => bnd (ca ρ s) fun x s1 => if isPil s1 x = true then bnd (cs ρ s1) fun xs s2 => CT f (x :: xs) s2 else none) := by
  obtain ⟨n, g, bm, F, hr, _⟩ := F
  have hst2 := hst
  rw [List.any_cons, Bool.or_eq_false_iff] at hst2
  exact PE.imp (pe_methR ha PF.cls bm.mt F hr (pass_of tk cw) h (starEach_cons hst2.1) (noStar_any hst2.2) (meth_tree hb (few_of hst hn) hline)) (mth_use cw hm)
theorem se_mth0 {C : Ct} {a : Expr} {ca : Env → Sto → Option (Out D)} {m' : Str} (PF : PileF C.X.K C.X.mg) (F : FnP CT C f m' 0) (tk : L2N.Takes C.X C.W) (cw : CW C) (hm : m' ∉ pfields) (hb : attributeBase a m' C.X.env (eval a C.X.env) = eval a C.X.env) (hline : (apos.endLine == pos.line) = true)
    (ha : SE C a ca) : SE C (.Call (.Attribute a m' apos) [] [] pos) (fun ρ s => bnd (ca ρ s) fun x s1 => if isPil s1 x = true then bnd (some (.ok ([] : List D) s1)) fun xs s2 => CT f (x :: xs) s2 else none) := by
  obtain ⟨n, g, bm, F, hr, _⟩ := F
  refine PE.imp (pe_methR0 ha PF.cls bm.mt F hr (pass_of tk cw) (meth_tree hb (few_of rfl (by simp)) hline)) fun σ H Q hq => ?_
  obtain ⟨ρ, m, s, hR, hP⟩ := mth_use (cs := fun _ s => some (.ok ([] : List D) s)) cw hm σ H Q hq
  refine ⟨ρ, m, s, hR, hP.mono fun v H1 ⟨a, dx, fs, e1, h1, h2, ρ2, m2, s2, hR2, q⟩ => ⟨a, dx, fs, e1, h1, h2, ?_⟩⟩
  exact q m2 H1 [] .refl hR2.sr rfl
/-- o.m( *e) -/
theorem se_msp {C : Ct} {a b : Expr} {ca cb : Env → Sto → Option (Out D)} {m' : Str} (PF : PileF C.X.K C.X.mg) (F : FnP CT C f m' 0) (tk : L2N.Takes C.X C.W) (cw : CW C) (hm : m' ∉ pfields) (hb : attributeBase a m' C.X.env (eval a C.X.env) = eval a C.X.env)
    (ha : SE C a ca) (h : SE C b cb) : SE C (.Call (.Attribute a m' apos) [.Starred b p] [] pos) (fun ρ s => bnd (ca ρ s) fun x s1 => if isPil s1 x = true then bnd (cb ρ s1) fun y s2 => match y with
      | .tup ys => CT f (x :: ys) s2
      | _ => none
      else none) := by
  obtain ⟨n, g, bm, F, hr, _⟩ := F
  refine PE.imp (pe_methS ha PF.cls bm F hr (pass_of tk cw) h hb) fun σ H Q ⟨ρ, m, s, hR, hP⟩ => ?_
  refine ⟨ρ, m, s, hR, (PX.bnd (R := RD C.X.K) hP).mono fun v H1 ⟨x, m1, s1, t1, S, rx, q⟩ => ?_⟩
  split at q
  · rename_i hp
    obtain ⟨n, l, dx, fs, vs, e0, e1, hl, hc, h1, h2, h3⟩ := isPil_val S rx hp
    refine ⟨l, dx, vs, e1, h1, RFs.none h2 h3 hm, fun q1 hq1 => ?_⟩
    have tq : Step C.L m1 s1 H1 m1 s1 (upd H1 q1 (.met g l)) := Step.new hq1
    refine ⟨ρ, m1, s1, hR.step (t1.trans tq) (S.new hq1), (PX.bnd (R := RD C.X.K) (q.step tq)).mono fun u H2 ⟨y, m2, s2, t2, S2, ry, q2⟩ => ?_⟩
    have ex : H2 q1 = some (.met g l) := t2.later.hold _ _ upd_same (fun _ z => nomatch z) ⟨fun _ z => (nomatch z), fun _ _ _ z => (nomatch z)⟩ fun _ z => (nomatch z)
    cases y with
    | tup ys =>
      obtain ⟨b, us, e2, h4, r4⟩ := ry
      refine ⟨b, us, e2, h4, ex, C.L, m2, s2, x :: ys, Nat.le_trans hR.base (Nat.le_trans t1.slen t2.slen), S2, ⟨_, us, rfl, ?_, r4⟩, q2.wish cw⟩
      rw [← e1]
      exact RD.later (tq.trans t2).later _ _ rx
    | _ => exact (show False from q2).elim
  · exact (show False from q).elim
/-- a property -/
theorem pe_propR {X : Cx} {n : Nat} {P p g : Addr} {f : Str} {sp : Sp} {e : Expr} {ta : TE} (he : PE X e ta) (c : Cls X.K P) (hp : PropOf X.K P f p g) (F : FnR X.prog X.w X.K X.mg X.base (L2N.CX X.prog X.w) n g sp) (hr : ∀ vs H Q E, sp vs H Q E → Room (n + 1) X.A)
    (hab : attributeBase e f X.env (eval e X.env) = eval e X.env) : PE X (.Attribute e f pos) (tProp P sp [] (fun _ _ _ => False) ta) := by
  refine ⟨fun pins s σ H Q I h => ?_⟩
  refine attr_of hab (thn (he.run pins s σ H _ I h) fun u s1 ⟨x, H1, I1, rx, a, dx, fs, ex, ea, q⟩ => ?_)
  subst ex
  obtain rfl : u = Value.ref a := rx
  obtain ⟨mA, O, _, _, _, _⟩ := ins_get I1.hok ea
  obtain ⟨od, J, _⟩ := O.look
  obtain ⟨rest, hrec⟩ := hp.rec_
  have I2 := I1.tok (s1.toks + 1)
  have hc : (PySem.W.clsIn X.K P).isSome = true := by
    obtain ⟨cd, hc, _⟩ := PySem.W.any_some c.hd
    rw [hc]
    rfl
  refine PySem.W.get_bind I1.kIn J (PySem.W.plainGet_of (c.get f)).1 (PySem.W.findObj_data hc hp.at_ hp.get hp.tak) (PySem.W.plainGet_of (c.get f)).2 (wpAny_call (PySem.W.prop_get (s := { s1 with toks := s1.toks + 1 }) I1.kIn hrec ?_))
  refine codeAny_mono (F X.A.in1 X.stack { s1 with toks := s1.toks + 1 } H1 [.ref a] [.ref a] Q (fun _ _ _ => False) (hr _ _ _ _ q).in1 I2.env0.in1 (.cons rfl .nil) q) fun r s' hq => ?_
  cases r with
  | error er => exact False.elim (pass_no (X := X.nox) pins σ H1 { s1 with toks := s1.toks + 1 } er s' (I2.wish _) hq)
  | ok fl =>
    cases fl with
    | ret u =>
      obtain ⟨v, H', I3, rv, q3⟩ := I2.after hq
      show wpAny _ _ (handedOut u) _ _ _
      rw [PySem.W.handedOut_of (handed_of rv)]
      exact wpAny_pure ⟨v, H', I3, rv, q3⟩
    | next => exact False.elim hq
    | brk => exact False.elim hq
    | cont => exact False.elim hq
theorem room_use {n i : Nat} (hr : RoomN n C CT i) : ∀ vs H Q E, spF C.X.K C.ca CT i vs H Q E → Room (n + 1) C.X.A := fun vs H Q E ⟨L, m, s, ds, _, _, _, q⟩ => by
  rcases hr.2 with h | h
  · exact h
  · rw [h] at q
    exact (show False from q).elim
theorem PX.okO {o : Option (Out D)} {Q : VK} {E E' : XK} (h : PX K C.ca L (RD K) m s H (okO o) Q E) : PX K C.ca L (RD K) m s H o Q E' := by
  match o, h with
  | some (.ok d s'), h => exact h
  | some (.exc k s'), h => exact (show False from h).elim
  | none, h => exact (show False from h).elim
theorem se_prp {C : Ct} {a : Expr} {ca : Env → Sto → Option (Out D)} {m' : Str} (PF : PileF C.X.K C.X.mg) (F : FnP CT C f m' 1) (hb : attributeBase a m' C.X.env (eval a C.X.env) = eval a C.X.env) (ha : SE C a ca) :
    SE C (.Attribute a m' pos) (fun ρ s => bnd (ca ρ s) fun x s1 => if isPil s1 x = true then okO (CT f [x] s1) else none) := by
  obtain ⟨n, p, g, pr, F, hr⟩ := F
  refine PE.imp (pe_propR ha PF.cls pr F (room_use hr) hb) fun σ H Q ⟨ρ, m, s, hR, hP⟩ => ?_
  refine ⟨ρ, m, s, hR, (PX.bnd (R := RD C.X.K) hP).mono fun v H1 ⟨x, m1, s1, t1, S, rx, q⟩ => ?_⟩
  split at q
  · rename_i hp
    obtain ⟨n, l, dx, fs, vs, e0, e1, hl, hc, h1, h2, h3⟩ := isPil_val S rx hp
    exact ⟨l, dx, vs, e1, h1, C.L, m1, s1, [x], Nat.le_trans hR.base t1.slen, S, ⟨v, [], by rw [e1], rx, rfl⟩, q.okO⟩
  · exact (show False from q).elim
/-- len(o) -/
theorem se_oln {C : Ct} {a : Expr} {ca : Env → Sto → Option (Out D)} (PF : PileF C.X.K C.X.mg) (F : FnP CT C f "__len__" 0) (hg : Gl C.X "len") (hm : C.X.mg "len" = none) (hst : isStar a = false) (ha : SE C a ca) :
    SE C (.Call (.Name "len" p) [a] [] pos) (fun ρ s => bnd (ca ρ s) fun x s1 => if isPil s1 x = true then bnd (okO (CT f [x] s1)) fun r s2 => match r with
      | .int i => if 0 ≤ i ∧ i < 2 ^ 63 then some (.ok (.int i) s2) else none
      | _ => none
      else none) := by
  obtain ⟨n, g, bm, F, hr⟩ := F
  have CR : CallR C.X (.builtin "len") (rLenOwn (pilA C.X.K) (spF C.X.K C.ca CT f) (fun _ _ _ => False)) := by
    intro pins s σ H xs us Q I r h
    obtain ⟨a, dx, fs, e, h1, q⟩ := h
    exact call_lenOwn bm.mt.at_ bm.mt.fn F (room_use hr _ _ _ _ q) pass_no pins s σ H xs us Q I r ⟨a, dx, fs, e, h1, q⟩
  refine PE.imp (pe_callB CR hg hm boot_len (pa_cons ha pa_nil (starEach_cons hst)) (by decide) (by decide) (starEach_cons hst) (noStar_any (r := []) rfl)) fun σ H Q ⟨ρ, m, s, hR, hP⟩ => ?_
  refine ⟨ρ, m, s, hR, (PX.bnd (R := RD C.X.K) hP).mono fun v H1 ⟨x, m1, s1, t1, S, rx, q⟩ => ?_⟩
  split at q
  · rename_i hp
    obtain ⟨n, l, dx, fs, vs, e0, e1, hl, hc, h1, h2, h3⟩ := isPil_val S rx hp
    refine ⟨l, dx, vs, by rw [e1], h1, C.L, m1, s1, [x], Nat.le_trans hR.base t1.slen, S, ⟨v, [], by rw [e1], rx, rfl⟩, ?_⟩
    have q2 : PX C.X.K C.ca C.L (RD C.X.K) m1 s1 H1 (okO (CT f [x] s1)) _ _ := PX.bnd (C := C) (R := RD C.X.K) q
    refine PX.okO (C := C) (E := WE C.W σ) (PX.mono (C := C) q2 fun b H2 ⟨r, m2, s2, t2, S2, rr, q3⟩ => ?_)
    split at q3
    · rename_i i
      split at q3
      · rename_i hi
        have rr : b = .int i := rr
        exact ⟨i, rr, hi.1, hi.2, by rw [rr]; exact q3 m2 H2 _ .refl S2 rfl⟩
      · exact (show False from q3).elim
    · exact (show False from q3).elim
  · exact (show False from q).elim
/-- Pile.m(..) -/
theorem se_cmt {C : Ct} {m' : Str} (PF : PileF C.X.K C.X.mg) (F : FnP CT C f m' 2) (tk : L2N.Takes C.X C.W) (cw : CW C) (hg : Gl C.X "Pile") (hst : (a :: es).any isStar = false) (hn : (a :: es).length < 20) (hline : (apos.endLine == pos.line) = true)
    (h : SA C (a :: es) cs) : SE C (.Call (.Attribute (.Name "Pile" p) m' apos) (a :: es) [] pos) (fun ρ s => bnd (cs ρ s) fun xs s1 => CT f (.gf 0 "Pile" :: xs) s1) := by
  obtain ⟨n, p, g, cm, F, hr, _⟩ := F
  have hst2 := hst
  rw [List.any_cons, Bool.or_eq_false_iff] at hst2
  refine PE.imp (ClX.pe_cmeth (pe_glob (v := .ref (pilA C.X.K)) hg PF.mg rfl (by decide)) PF.rd cm F hr (pass_of tk cw) h (starEach_cons hst2.1) (noStar_any hst2.2) (meth_tree rfl (few_of hst hn) hline)) fun σ H Q ⟨ρ, m, s, hR, hP⟩ => ?_
  refine ⟨rfl, ρ, m, s, hR, (PX.bnd (R := RDs C.X.K) hP).mono fun us H1 ⟨xs, m1, s1, t1, S, rx, q⟩ => ?_⟩
  exact ⟨C.L, m1, s1, .gf 0 "Pile" :: xs, Nat.le_trans hR.base t1.slen, S, ⟨_, us, rfl, ⟨rfl, .inr rfl⟩, rx⟩, q.wish cw⟩
/-- Pile.X -/
theorem se_ccn {C : Ct} {k : Str} {d : D} {v : V} {u : Value} (PF : PileF C.X.K C.X.mg) (hv : ClX.CVal C.X.K (pilA C.X.K) (.type "type") k v u) (r : ∀ m H, RD C.X.K m H d v) (hg : Gl C.X "Pile") (e : ∀ s, CT f [] s = some (.ok d s)) :
    SE C (.Attribute (.Name "Pile" p) k pos) (fun _ s => CT f [] s) := by
  refine PE.imp (ClX.pe_cval (pe_glob (v := .ref (pilA C.X.K)) hg PF.mg rfl (by decide)) rfl) fun σ H Q ⟨ρ, m, s, hR, hP⟩ => ?_
  dsimp only at hP
  rw [e] at hP
  exact ⟨pilA C.X.K, _, v, u, rfl, PF.rd, hv, hP m H v .refl hR.sr (r m H)⟩
end
end EV

set_option maxHeartbeats 2000000
/-! the class Pile: instances made, fields stored, pop -/
namespace EV
open PySem PySem.Spec PyProof.Rows L2
theorem bnd_assoc {α β γ : Type} (o : Option (Out α)) (f : α → Sto → Option (Out β)) (g : β → Sto → Option (Out γ)) : bnd (bnd o f) g = bnd o fun a s => bnd (f a s) g := by
  match o with
  | some (.ok _ _) => rfl
  | some (.exc _ _) => rfl
  | none => rfl
section
variable {C : Ct} {m m1 m2 : Pl} {H H1 H2 : Hp} {s s1 s2 : Sto} {ρ : Env} {σ : L2.St} {K : PySem.W.Frag} {L : Nat}
variable {a b c x y z : Expr} {ca cb cc : Env → Sto → Option (Out D)} {pos p apos : Pos} {es : List Expr} {cs : Env → Sto → Option (Out (List D))} {CT : CTb} {nm : Str} {f : Nat}
theorem make_use {dds xs : List D} {vs zs : List V} {gV : List V → List V → List V} {kn : Nat} {Q : VK} (cw : CW C) (hg : ∀ m H ds vs zs, vs.length = 2 → zs.length = kn → RDs C.X.K m H ds (vs ++ zs) → RDs C.X.K m H (ds ++ dds) (gV vs zs)) (l1 : vs.length = 1) (l2 : zs.length = kn)
    (hL : C.L ≤ s.length) (S : SRel C.X.K m s H) (rd : RDs C.X.K m H xs (vs ++ zs)) (q : P C (RD C.X.K) σ m s H (conK CT f xs s) Q) (xa dx : Addr) (hx : H xa = none) (hd : H dx = none) (ne : dx ≠ xa) :
    spI C.X.K C.ca CT f dds (gV (.ref xa :: vs) zs) (upd (upd H dx (.own xa)) xa (.ins (pilA C.X.K) dx [])) (fun v H3 => v = .non ∧ Q (.ref xa) H3) (WE C.W []) := by
  have S1 : SRel C.X.K m s (upd H dx (.own xa)) := S.new hd
  have hx' : (upd H dx (.own xa)) xa = none := by rw [upd_ne (Ne.symm ne)]; exact hx
  have S2 : SRel C.X.K (m.add xa) (s ++ [.ins []]) (upd (upd H dx (.own xa)) xa (.ins (pilA C.X.K) dx [])) := S1.addCell hx' ⟨dx, [], upd_same, rfl, fun q hq => (nomatch hq)⟩
  have t : Step C.L m s H (m.add xa) (s ++ [.ins []]) (upd (upd H dx (.own xa)) xa (.ins (pilA C.X.K) dx [])) := (Step.new hd).trans (Step.addNew hx' hL)
  have ha : (m.add xa).a[s.length]? = some xa := by
    show (m.a ++ [xa])[_]? = _
    rw [← S.len, List.getElem?_concat_length]
  refine ⟨C.L, m.add xa, s ++ [.ins []], .loc s.length :: xs, by rw [List.length_append]; exact Nat.add_le_add_right hL 1, S2, ?_, ?_⟩
  · exact hg _ _ _ _ _ (by rw [List.length_cons, l1]) l2 ⟨.ref xa, _, rfl, ⟨xa, rfl, ha⟩, RDs.later t.later _ _ rd⟩
  · refine PX.wish cw (PX.mono (PX.bnd (R := RD C.X.K) (q.step t)) fun v H3 ⟨d, m3, s3, t3, S3, rv, q3⟩ => ?_)
    cases d with
    | non => exact ⟨rv, q3 m3 H3 _ .refl S3 ⟨xa, rfl, t3.later.at ha⟩⟩
    | _ => exact (show False from q3).elim
/-- how the class is named -/
structure Cle (C : Ct) (x : Str) (p : Pos) (c : E) : Prop where
  ex : ∃ tf, PE C.X (.Name x p) tf ∧ ∀ ρ m s σ H Q, Rel C m s H ρ σ → clsIs ρ c = true → Q (.ref (pilA C.X.K)) H → tf σ H Q
theorem cle_glob (PF : PileF C.X.K C.X.mg) (hg : Gl C.X "Pile") : Cle C "Pile" p .nil := ⟨_, pe_glob (v := .ref (pilA C.X.K)) hg PF.mg rfl (by decide), fun _ _ _ _ _ _ _ _ q => q⟩
theorem cle_var {k : Nat} {x : Str} (hN : C.X.N[k]? = some x) (hv : Vis C.X.env.scope x) (hdb : (x == ("__debug__" : Str)) = false) (hcd : (x == ("__classdict__" : Str)) = false) : Cle C x p (.var k) := by
  refine ⟨_, pe_var hN hv hdb hcd, fun ρ m s σ H Q hR hc q => ?_⟩
  have hc : (match ρ[k]? with
    | some (some (.gf _ x)) => decide (x = "Pile")
    | _ => false) = true := hc
  split at hc
  · rename_i i y e
    obtain ⟨v, h1, rv, _⟩ := hR.env k _ e
    have := of_decide_eq_true hc
    subst this
    exact ⟨v, h1, by rw [rv]; exact q⟩
  · cases hc
theorem roomI_use {n i : Nat} {dds : List D} (hr : RoomN n C CT i) : ∀ vs H Q E, spI C.X.K C.ca CT i dds vs H Q E → Room (n + 1) C.X.A := fun vs H Q E ⟨L, m, s, ds, _, _, _, q⟩ => by
  rcases hr.2 with h | h
  · exact h
  · rw [h] at q
    exact (show False from q).elim
/-- C(a) -/
theorem se_con0 {x' : Str} {c' : E} (F : FnP CT C f nm 3) (tk : L2N.Takes C.X C.W) (cw : CW C) (hcl : Cle C x' p c') (hdb : (x' == ("__debug__" : Str)) = false) (hst : isStar a = false) (ha : SE C a ca) :
    SE C (.Call (.Name x' p) [a] [] pos) (fun ρ s => if clsIs ρ c' = true then bnd (ca ρ s) fun x s1 => conK CT f [x] s1 else none) := by
  obtain ⟨n, g, fd, ps, gg, gV, dds, M, F, hb, hg, hr⟩ := F
  obtain ⟨tf, hf, use⟩ := hcl.ex
  refine PE.imp (pe_makeG0 (n := 1) hf hdb M F (roomI_use hr) hb (pass_of tk cw) (pa_cons ha pa_nil (starEach_cons hst)) (starEach_cons hst) rfl) fun σ H Q ⟨ρ, m, s, hR, hP⟩ => ?_
  dsimp only at hP
  split at hP
  case isFalse => exact (show False from hP).elim
  rename_i hc
  refine use ρ m s σ H _ hR hc ⟨rfl, ρ, m, s, hR, (PX.bnd (R := RD C.X.K) hP).mono fun v H1 ⟨x, m1, s1, t1, S, rx, q⟩ => ?_⟩
  exact ⟨rfl, rfl, make_use (xs := [x]) (vs := [v]) (zs := []) (kn := 0) cw hg rfl rfl (Nat.le_trans hR.base t1.slen) S ⟨v, [], rfl, rx, rfl⟩ q⟩
/-- C(a, multiple=b) -/
theorem se_con1 {x' : Str} {c' : E} {kpos : Pos} (F : FnP CT C f nm 4) (tk : L2N.Takes C.X C.W) (cw : CW C) (hcl : Cle C x' p c') (hdb : (x' == ("__debug__" : Str)) = false) (hst : isStar a = false) (ha : SE C a ca) (hb' : SE C b cb) :
    SE C (.Call (.Name x' p) [a] [⟨some "multiple", b, kpos⟩] pos) (fun ρ s => if clsIs ρ c' = true then bnd (ca ρ s) fun x s1 => bnd (cb ρ s1) fun y s2 => conK CT f [x, y] s2 else none) := by
  obtain ⟨n, g, fd, ps, gg, gV, dds, M, F, hb, hg, hr⟩ := F
  obtain ⟨tf, hf, use⟩ := hcl.ex
  refine PE.imp (pe_makeG (n := 1) (ks := ["multiple"]) hf hdb M F (roomI_use hr) hb (pass_of tk cw) (pa_cons ha pa_nil (starEach_cons hst)) (pk_cons (kpos := kpos) (nm := some "multiple") hb' pk_nil) rfl rfl (starEach_cons hst) (by rw [starEach_cons hst]; rfl)) fun σ H Q ⟨ρ, m, s, hR, hP⟩ => ?_
  dsimp only at hP
  split at hP
  case isFalse => exact (show False from hP).elim
  rename_i hc
  refine use ρ m s σ H _ hR hc ⟨rfl, ρ, m, s, hR, (PX.bnd (R := RD C.X.K) hP).mono fun v H1 ⟨x, m1, s1, t1, S, rx, q⟩ => ?_⟩
  have hR1 := hR.step t1 S
  refine ⟨ρ, m1, s1, hR1, (PX.bnd (R := RD C.X.K) q).mono fun u H2 ⟨y, m2, s2, t2, S2, ry, q2⟩ => ?_⟩
  exact ⟨rfl, rfl, make_use (xs := [x, y]) (vs := [v]) (zs := [u]) (kn := 1) cw hg rfl rfl (Nat.le_trans hR1.base t2.slen) S2 ⟨v, [u], rfl, RD.later t2.later _ _ rx, u, [], rfl, ry, rfl⟩ q2⟩

end
end EV

/-! the checker: does a def's text match the IR; expressions -/
namespace EV
open PySem PySem.Spec PyProof.Rows L2

structure Tb where
  nm : Nat → Str
  isC : Nat → Bool
  has : Nat → Bool
  isE : Nat → Bool
  isG : Nat → Bool
  lam : Nat → Arguments → Expr → Scope → Bool
  pil : Bool                                -- the text has the class Pile
  mem : Nat → Option (Nat × Str)            -- its members: kind and name
  cc : Nat → Option Str                     -- its constants
def bltNames : List Str := ["len", "int", "max", "min", "sum", "all", "list", "tuple", "repr", "range", "isinstance", "bool", "str", "enumerate", "zip", "set", "sorted"]
def glB (sc : Scope) (x : Str) : Bool := match sc.names.lookup x with
  | some .globalImplicit => true
  | _ => false
def visB (sc : Scope) (x : Str) : Bool := match sc.names.lookup x with
  | some .local => true
  | some .cell => true
  | some .free => true
  | _ => false
/-- may be stored: a local name, in a def's body a cell too -/
def locB (bd : Bool) (sc : Scope) (x : Str) : Bool := match sc.names.lookup x with
  | some .local => true
  | some .cell => bd
  | _ => false
def notDbg (x : Str) : Bool := !(x == ("__debug__" : Str)) && !(x == ("__classdict__" : Str))
def isIf : Expr → Bool
  | .IfExp .. => true
  | _ => false
def isSet : Expr → Bool
  | .Set .. => true
  | _ => false
def opOf : BO → Operator
  | .add => .Add | .sub => .Sub | .mul => .Mult | .fdiv => .FloorDiv | .mod => .Mod | .pow => .Pow
def coOf : CO → CmpOp
  | .lt => .Lt | .le => .LtE | .gt => .Gt | .ge => .GtE | .eq => .Eq | .ne => .NotEq | .isin => .In | .notin => .NotIn | .is_ => .Is | .isnot => .IsNot
instance : DecidableEq Operator := inferInstance
instance : DecidableEq CmpOp := inferInstance
mutual
/-- a target -/
def chkT (N : List Str) (bd : Bool) : E → Scope → Expr → Bool
  | .tnm i, sc, x => match x with
    | .Name n _ => decide (N[i]? = some n) && locB bd sc n
    | _ => false
  | .ttp es, sc, x => match x with
    | .Tuple xs _ _ => !(xs.any isStar) && chkTs N bd es sc xs
    | _ => false
  | _, _, _ => false
def chkTs (N : List Str) (bd : Bool) : E → Scope → List Expr → Bool
  | .nil, _, xs => match xs with
    | [] => true
    | _ => false
  | .cons a b, sc, xs => match xs with
    | x :: r => chkT N bd a sc x && chkTs N bd b sc r
    | _ => false
  | _, _, _ => false
end
/-- how the class is named -/
def cleB (N : List Str) (sc : Scope) (n : Str) : E → Bool
  | .nil => decide (n = "Pile") && glB sc n
  | .var k => decide (N[k]? = some n) && visB sc n
  | _ => false
def isTup : Expr → Bool
  | .Tuple .. => true
  | _ => false
mutual
def chk (T : Tb) (N : List Str) : E → Scope → Expr → Bool
  | .var i, sc, x => match x with
    | .Name n _ => decide (N[i]? = some n) && visB sc n && notDbg n
    | _ => false
  | .cint i, _, x => match x with
    | .Constant (.int j) _ _ => decide (i = j)
    | _ => false
  | .cstr i, _, x => match x with
    | .Constant (.str j) _ _ => decide (i = j)
    | _ => false
  | .cbl i, _, x => match x with
    | .Constant (.bool j) _ _ => decide (i = j)
    | _ => false
  | .cnon, _, x => match x with
    | .Constant .none _ _ => true
    | _ => false
  | .g i, sc, x => match x with
    | .Name n _ => decide (T.nm i = n) && T.isC i && glB sc n && notDbg n
    | _ => false
  | .bin o a b, sc, x => match x with
    | .BinOp l op r _ => decide (opOf o = op) && chk T N a sc l && chk T N b sc r
    | _ => false
  | .neg a, sc, x => match x with
    | .UnaryOp .USub l _ => chk T N a sc l
    | _ => false
  | .not a, sc, x => match x with
    | .UnaryOp .Not l _ => !(isIf l) && chk T N a sc l
    | _ => false
  | .cmp o a b, sc, x => match x with
    | .Compare l [op] [r] _ => decide (coOf o = op) && !(behindInMarks op r) && chk T N a sc l && chk T N b sc r
    | _ => false
  | .chn o p a b c, sc, x => match x with
    | .Compare l [op, op'] [r, r'] _ => decide (coOf o = op) && decide (coOf p = op') && !(lastMarks [op, op'] [r, r']) && chk T N a sc l && chk T N b sc r && chk T N c sc r'
    | _ => false
  | .chn3 o p q a b c d, sc, x => match x with
    | .Compare l [op, op', op''] [r, r', r''] _ => decide (coOf o = op) && decide (coOf p = op') && decide (coOf q = op'') && !(lastMarks [op, op', op''] [r, r', r'']) && chk T N a sc l && chk T N b sc r && chk T N c sc r' && chk T N d sc r''
    | _ => false
  | .dst a, sc, x => match x with
    | .Call (.Name n _) [.Call (.Name n' _) [l] [] _] [] _ => decide (n = "len") && decide (n' = "set") && glB sc n && glB sc n' && !(isStar l) && chk T N a sc l
    | _ => false
  | .and a b, sc, x => match x with
    | .BoolOp .And (l :: r :: rest) pos => !(isIf l) && chk T N a sc l && (match rest with
      | [] => !(isIf r) && chk T N b sc r
      | _ :: _ => chk T N b sc (.BoolOp .And (r :: rest) pos))
    | _ => false
  | .or a b, sc, x => match x with
    | .BoolOp .Or (l :: r :: rest) pos => !(isIf l) && chk T N a sc l && (match rest with
      | [] => !(isIf r) && chk T N b sc r
      | _ :: _ => chk T N b sc (.BoolOp .Or (r :: rest) pos))
    | _ => false
  | .ite c a b, sc, x => match x with
    | .IfExp t l r _ => !(isIf t) && chk T N c sc t && chk T N a sc l && chk T N b sc r
    | _ => false
  | .tup es, sc, x => match x with
    | .Tuple xs _ _ => chks T N es sc xs
    | _ => false
  | .lst _ es, sc, x => match x with
    | .List xs _ => chks T N es sc xs
    | _ => false
  | .call f es, sc, x => match x with
    | .Call (.Name n _) xs [] _ => decide (T.nm f = n) && T.has f && glB sc n && notDbg n && chks T N es sc xs
    | _ => false
  | .err f es, sc, x => match x with
    | .Call (.Name n _) (.Name y _ :: xs) [] _ => decide (n = "_law_error") && glB sc n && decide (T.nm f = y) && T.isE f && glB sc y && notDbg y && chks T N es sc xs
    | .Call (.Name n _) (.Lambda ps body lsc _ :: y :: xs) [] _ => decide (n = "_law_error") && glB sc n && T.lam f ps body lsc && lamPar ps && lamSc lsc && chks T N es sc (y :: xs)
    | _ => false
  | .bi b es, sc, x => match x with
    | .Call (.Name n _) (y :: xs) [] _ => decide (biName b = n) && glB sc n && chks T N es sc (y :: xs)
    | _ => false
  | .isi a ts, sc, x => match x with
    | .Call (.Name n _) [l, .Name t _] [] _ => decide (n = "isinstance") && glB sc n && glB sc t && !(isStar l) && (match ts with
      | [u] => decide (tyN u = t)
      | _ => false) && chk T N a sc l
    | .Call (.Name n _) [l, .Tuple [.Name t _, .Name t' _] _ _] [] _ => decide (n = "isinstance") && glB sc n && glB sc t && glB sc t' && !(isStar l) && (match ts with
      | [u, u'] => decide (tyN u = t) && decide (tyN u' = t')
      | _ => false) && chk T N a sc l
    | _ => false
  | .idx a i, sc, x => match x with
    | .Subscript l r _ => !(isSlice r) && chk T N a sc l && chk T N i sc r
    | _ => false
  | .slc a lo hi, sc, x => match x with
    | .Subscript l (.Slice p q none _) _ => chk T N a sc l && cho T N lo sc p && cho T N hi sc q
    | _ => false
  | .rev a, sc, x => match x with
    | .Subscript l (.Slice none none (some (.UnaryOp .USub (.Constant (.int j) _ _) _)) _) _ => decide (j = 1) && chk T N a sc l
    | _ => false
  | .revT a, sc, x => match x with
    | .Subscript l (.Slice none none (some (.UnaryOp .USub (.Constant (.int j) _ _) _)) _) _ => decide (j = 1) && chk T N a sc l
    | _ => false
  | .stp a i, sc, x => match x with
    | .Subscript l (.Slice (some r) none (some (.Constant (.int j) _ _)) _) _ => decide (j = 2) && chk T N a sc l && chk T N i sc r
    | _ => false
  | .lix a i, sc, x => match x with
    | .Call (.Attribute (.Name y p) n apos) [r] [] q => decide (n = "index") && !(isStar r) && (apos.endLine == q.line) && chk T N a sc (.Name y p) && chk T N i sc r
    | _ => false
  | .lrng a b, sc, x => match x with
    | .Call (.Name n _) [.Call (.Name n' _) [l, r] [] _] [] _ => decide (n = "list") && decide (n' = "range") && glB sc n && glB sc n' && !(isStar l) && !(isStar r) && chk T N a sc l && chk T N b sc r
    | _ => false
  | .dnew, _, x => match x with
    | .Dict [] [] _ => true
    | _ => false
  | .lrng1 a, sc, x => match x with
    | .Call (.Name n _) [.Call (.Name n' _) [l] [] _] [] _ => decide (n = "list") && decide (n' = "range") && glB sc n && glB sc n' && !(isStar l) && chk T N a sc l
    | _ => false
  | .cpy a, sc, x => match x with
    | .Call (.Name n _) [l] [] _ => decide (n = "list") && glB sc n && !(isStar l) && chk T N a sc l
    | _ => false
  | .comp own tg elt it cond, sc, x => match x with
    | .ListComp e [⟨tg', it', ifs, 0⟩] scope _ => chki T N it sc tg' it' && blkC N sc scope (own.filterMap fun i => (N[i]?).map fun n => (n, i)) && decide ((own.filterMap fun i => (N[i]?).map fun n => (n, i)).map (·.2) = own) &&
        (slots tg).all (fun i => own.contains i) && chkT N false tg (relS scope sc) tg' && !(isSet it') && chk T N elt (relS scope sc) e && (match ifs with
        | [] => (match cond with
          | .cbl true => true
          | _ => false)
        | [c] => !(isIf c) && chk T N cond (relS scope sc) c
        | _ => false)
    | _ => false
  | .cpm own tg elt it cond, sc, x => match x with
    | .ListComp e [⟨tg', it', ifs, 0⟩] scope _ => chki T N it sc tg' it' && blkC N sc scope (own.filterMap fun i => (N[i]?).map fun n => (n, i)) && decide ((own.filterMap fun i => (N[i]?).map fun n => (n, i)).map (·.2) = own) &&
        (slots tg).all (fun i => own.contains i) && chkT N false tg (relS scope sc) tg' && !(isSet it') && chk T N elt (relS scope sc) e && (match ifs with
        | [] => (match cond with
          | .cbl true => true
          | _ => false)
        | [c] => !(isIf c) && chk T N cond (relS scope sc) c
        | _ => false)
    | _ => false
  | .wlk own f es, sc, x => match x with
    | .ListComp (.Name n _) [⟨.Name n' _, .Call (.Name g _) (y :: xs) [] _, [], 0⟩] scope _ => decide (n = n') && decide (T.nm f = g) && T.isG f && glB sc g && notDbg g && notDbg n && chks T N es sc (y :: xs) && blkC N sc scope (own.filterMap fun i => (N[i]?).map fun n => (n, i)) && decide (scope.names.lookup n = some .local)
    | _ => false
  | .lgn f es, sc, x => match x with
    | .Call (.Name n _) [.Call (.Name g _) (y :: xs) [] _] [] _ => decide (n = "list") && glB sc n && decide (T.nm f = g) && T.isG f && glB sc g && notDbg g && chks T N es sc (y :: xs)
    | _ => false
  | .srt a, sc, x => match x with
    | .Call (.Name n _) [.Call (.Name n' _) [l] [] _] [] _ => decide (n = "sorted") && decide (n' = "set") && glB sc n && glB sc n' && !(isStar l) && chk T N a sc l
    | _ => false
  | .isl a, sc, x => match x with
    | .Call (.Name n _) [l, .Name n' _] [] _ => decide (n = "isinstance") && decide (n' = "list") && glB sc n && glB sc n' && !(isStar l) && chk T N a sc l
    | _ => false
  | .gf i y, sc, x => match x with
    | .Name n _ => decide (y = n) && gfs.contains (i, n) && glB sc n && notDbg n
    | _ => false
  | .cav k es, sc, x => match x with
    | .Call (.Name n _) (y :: xs) [] _ => decide (N[k]? = some n) && visB sc n && notDbg n && chks T N es sc (y :: xs)
    | _ => false
  | .fld k a, sc, x => match x with
    | .Attribute (.Name o p) n _ => T.pil && pfields.contains n && decide (k = n) && chk T N a sc (.Name o p)
    | _ => false
  | .mth f a es, sc, x => match x with
    | .Call (.Attribute (.Name o p) n apos) xs [] q => T.pil && decide (T.mem f = some (0, n)) && !(pfields.contains n) && (apos.endLine == q.line) && decide (xs.length < 20) && chk T N a sc (.Name o p) && chks T N es sc xs
    | _ => false
  | .msp f a e, sc, x => match x with
    | .Call (.Attribute (.Name o p) n _) [.Starred y _] [] _ => T.pil && decide (T.mem f = some (0, n)) && !(pfields.contains n) && chk T N a sc (.Name o p) && chk T N e sc y
    | _ => false
  | .prp f a, sc, x => match x with
    | .Attribute (.Name o p) n _ => T.pil && decide (T.mem f = some (1, n)) && chk T N a sc (.Name o p)
    | _ => false
  | .oln f a, sc, x => match x with
    | .Call (.Name n _) [l] [] _ => decide (n = "len") && T.pil && decide (T.mem f = some (0, ("__len__" : Str))) && glB sc n && !(isStar l) && chk T N a sc l
    | _ => false
  | .con0 f c a, sc, x => match x with
    | .Call (.Name n _) [l] [] _ => T.pil && decide (T.mem f = some (3, ("__init__" : Str))) && cleB N sc n c && notDbg n && !(isStar l) && chk T N a sc l
    | _ => false
  | .con1 f c a b, sc, x => match x with
    | .Call (.Name n _) [l] [⟨some kn, y, _⟩] _ => T.pil && decide (T.mem f = some (4, ("__init__" : Str))) && decide (kn = "multiple") && cleB N sc n c && notDbg n && !(isStar l) && chk T N a sc l && chk T N b sc y
    | _ => false
  | .cmt f es, sc, x => match x with
    | .Call (.Attribute (.Name n _) mn apos) (y :: xs) [] q => decide (n = "Pile") && glB sc n && T.pil && decide (T.mem f = some (2, mn)) && (apos.endLine == q.line) && decide ((y :: xs).length < 20) && chks T N es sc (y :: xs)
    | _ => false
  | .ccn k f, sc, x => match x with
    | .Attribute (.Name n _) kn _ => decide (n = "Pile") && glB sc n && T.pil && decide (T.cc f = some kn)
    | _ => false
  | _, _, _ => false
def chks (T : Tb) (N : List Str) : E → Scope → List Expr → Bool
  | .nil, _, xs => match xs with
    | [] => true
    | _ => false
  | .cons a b, sc, xs => match xs with
    | x :: r => !(isStar x) && chk T N a sc x && chks T N b sc r
    | _ => false
  | _, _, _ => false
def cho (T : Tb) (N : List Str) : E → Scope → Option Expr → Bool
  | .nil, _, x => match x with
    | none => true
    | _ => false
  | .ps a, sc, x => match x with
    | some e => chk T N a sc e
    | _ => false
  | _, _, _ => false
def chki (T : Tb) (N : List Str) : E → Scope → Expr → Expr → Bool
  | .it a, sc, _, x => chk T N a sc x
  | .rng1 a, sc, _, x => match x with
    | .Call (.Name n _) [l] [] _ => decide (n = "range") && glB sc n && !(isStar l) && chk T N a sc l
    | _ => false
  | .rng2 a b, sc, _, x => match x with
    | .Call (.Name n _) [l, r] [] _ => decide (n = "range") && glB sc n && !(isStar l) && !(isStar r) && chk T N a sc l && chk T N b sc r
    | _ => false
  | .rng3 a b c, sc, _, x => match x with
    | .Call (.Name n _) [l, r, t] [] _ => decide (n = "range") && glB sc n && !(isStar l) && !(isStar r) && !(isStar t) && chk T N a sc l && chk T N b sc r && chk T N c sc t
    | _ => false
  | .enum a, sc, tg, x => match x with
    | .Call (.Name n _) [l] [] _ => decide (n = "enumerate") && isTup tg && glB sc n && !(isStar l) && chk T N a sc l
    | _ => false
  | .zip a b, sc, tg, x => match x with
    | .Call (.Name n _) [l, r] [] _ => decide (n = "zip") && isTup tg && glB sc n && !(isStar l) && !(isStar r) && chk T N a sc l && chk T N b sc r
    | _ => false
  | _, _, _, _ => false
end

/-- what stands around -/
structure GOk (T : Tb) (CT : CTb) (C : Ct) : Prop where
  calm : C.X.calm = true
  nd : C.X.N.Nodup
  un : C.X.A.units + 65 < cLine
  tk : L2N.Takes C.X C.W
  blt : ∀ x ∈ bltNames, C.X.mg x = none
  con : ∀ i, T.isC i = true → ∃ d v u, C.X.mg (T.nm i) = some u ∧ RelV v u ∧ (∀ m H, RD C.X.K m H d v) ∧ ∀ s, CT i [] s = some (.ok d s)
  fn : ∀ f, T.has f = true → FnC CT (T.nm f) C f
  er : ∀ f, T.isE f = true → FnE CT (T.nm f) C f
  gn : ∀ f, T.isG f = true → FnG CT (T.nm f) C f
  gf : ∀ q ∈ gfs, T.has q.1 = true ∧ T.nm q.1 = q.2 ∧ C.X.mg q.2 = some (.ref (He.ga C.X.K q.2))
  lam : ∀ i ps body lsc, T.lam i ps body lsc = true → FnL CT C i ps body lsc
  cw : CW C
  pil : T.pil = true → PileF C.X.K C.X.mg
  mem : ∀ i k x, T.mem i = some (k, x) → FnP CT C i x k
  cc : ∀ i x, T.cc i = some x → ∃ d v u, ClX.CVal C.X.K (pilA C.X.K) (.type "type") x v u ∧ (∀ m H, RD C.X.K m H d v) ∧ ∀ s, CT i [] s = some (.ok d s)
section
variable {C : Ct} {T : Tb} {CT : CTb} {sc : Scope} {N : List Str}
theorem glB_ok {x : Str} (hs : C.X.env.scope = sc) (h : glB sc x = true) : Gl C.X x := by
  subst hs
  unfold glB at h
  split at h
  · assumption
  · cases h
theorem visB_ok {x : Str} (hs : C.X.env.scope = sc) (h : visB sc x = true) : Vis C.X.env.scope x := by
  subst hs
  unfold visB at h
  split at h
  · exact .inl (by assumption)
  · exact .inr (.inl (by assumption))
  · exact .inr (.inr (by assumption))
  · cases h
theorem notDbg_ok {x : Str} (h : notDbg x = true) : (x == ("__debug__" : Str)) = false ∧ (x == ("__classdict__" : Str)) = false := by
  unfold notDbg at h
  rw [Bool.and_eq_true] at h
  simpa using h
theorem GOk.blk (G : GOk T CT C) (s : Shared) (H : Hp) (scope : Scope) (cl : List (Str × Addr)) (A : Addr) (fp : List Addr) : GOk T CT (C.blk (C.X.blk s H scope (compEnvC scope cl A C.X.env) fp)) :=
  ⟨G.calm, G.nd, G.un, takes0N, G.blt, G.con, G.fn, G.er, G.gn, G.gf, G.lam, fun _ _ => rfl, G.pil, G.mem, G.cc⟩
theorem cle_ok {N : List Str} {x : Str} {p : Pos} {c : E} (PF : PileF C.X.K C.X.mg) (hN : C.X.N = N) (hs : C.X.env.scope = sc) (h : cleB N sc x c = true) (hd : notDbg x = true) : Cle C x p c := by
  unfold cleB at h
  split at h
  · rw [Bool.and_eq_true] at h
    have e := of_decide_eq_true h.1
    subst e
    exact cle_glob PF (glB_ok hs h.2)
  · rw [Bool.and_eq_true] at h
    obtain ⟨h4, h5⟩ := notDbg_ok hd
    subst hN
    exact cle_var (of_decide_eq_true h.1) (visB_ok hs h.2) h4 h5
  · cases h
/-- the checked: what the theorem says of one IR -/
structure Chd (T : Tb) (CT : CTb) (N : List Str) (e : E) : Prop where
  se : ∀ (C : Ct) (sc : Scope) (x : Expr), GOk T CT C → C.X.N = N → C.X.env.scope = sc → chk T N e sc x = true → SE C x (ev CT e)
  st : ∀ (C : Ct) (sc : Scope) (x : Expr), GOk T CT C → C.X.N = N → C.X.env.scope = sc → chk T N e sc x = true → isIf x = false → ST C x (ev CT e)
  sw : ∀ (C : Ct) (sc : Scope) (op : BoolOp) (vs : List Expr) (pos : Pos), GOk T CT C → C.X.N = N → C.X.env.scope = sc → chk T N e sc (.BoolOp op vs pos) = true → SW C (.BoolOp op vs pos) (ev CT e)
  sa : ∀ (C : Ct) (sc : Scope) (xs : List Expr), GOk T CT C → C.X.N = N → C.X.env.scope = sc → chks T N e sc xs = true → SA C xs (evs CT e) ∧ xs.any isStar = false
  so : ∀ (C : Ct) (sc : Scope) (x : Option Expr), GOk T CT C → C.X.N = N → C.X.env.scope = sc → cho T N e sc x = true → SO_ C x (evo CT e)
  si : ∀ (C : Ct) (sc : Scope) (tg x : Expr), GOk T CT C → C.X.N = N → C.X.env.scope = sc → chki T N e sc tg x = true → SI C tg x (evi CT e)
/-- an expression whose truth is its value's -/
def plainT : Expr → Bool
  | .UnaryOp .Not _ _ => false
  | .BoolOp .. => false
  | .IfExp .. => false
  | .Compare .. => false
  | _ => true
theorem plainT_ok {x : Expr} (h : plainT x = true) {env : PySem.Env} (whole : Sem Value) : isTrue x env whole = (do let v ← whole; standAt x.pos; holding [v] (truthy v)) := by
  cases x with
  | UnaryOp op a pos => cases op <;> first | rfl | cases h
  | BoolOp op a pos => cases h
  | IfExp a b c pos => cases h
  | Compare a b c pos => cases h
  | _ => rfl
end
end EV

set_option maxHeartbeats 4000000
/-! expressions: the checker is sound -/
namespace EV
open PySem PySem.Spec PyProof.Rows L2
section
variable {C : Ct} {T : Tb} {CT : CTb} {sc : Scope} {N : List Str}
theorem chd_plain {e : E} (h1 : ∀ sc xs, chks T N e sc xs = false) (h2 : ∀ sc x, cho T N e sc x = false) (h3 : ∀ sc tg x, chki T N e sc tg x = false) (hp : ∀ sc x, chk T N e sc x = true → plainT x = true)
    (se : ∀ (C : Ct) (sc : Scope) (x : Expr), GOk T CT C → C.X.N = N → C.X.env.scope = sc → chk T N e sc x = true → SE C x (ev CT e)) : Chd T CT N e where
  se := se
  st := fun C sc x G hN hs h _ => st_val (se C sc x G hN hs h) (plainT_ok (hp sc x h))
  sw := fun C sc op vs pos G hN hs h => absurd (hp _ _ h) Bool.false_ne_true
  sa := fun C sc xs G hN hs h => by rw [h1] at h; cases h
  so := fun C sc xs G hN hs h => by rw [h2] at h; cases h
  si := fun C sc tg xs G hN hs h => by rw [h3] at h; cases h
theorem chd_none {e : E} (h0 : ∀ sc x, chk T N e sc x = false) (h1 : ∀ sc xs, chks T N e sc xs = false) (h2 : ∀ sc x, cho T N e sc x = false) (h3 : ∀ sc tg x, chki T N e sc tg x = false) : Chd T CT N e :=
  chd_plain h1 h2 h3 (fun sc x h => by rw [h0] at h; cases h) fun C sc x G hN hs h => by rw [h0] at h; cases h
theorem bin_mul' {C : Ct} : BinOk C (rMulD C.X.K) (binD .mul) := bin_mul
theorem bin_add' {C : Ct} : BinOk C (rAddD C.X.K) (binD .add) := bin_add
/-- a binary operation -/
theorem se_binO {o : BO} {l r : Expr} {ca cb : Env → Sto → Option (Out D)} {pos : Pos} (ha : SE C l ca) (hb : SE C r cb) : SE C (.BinOp l (opOf o) r pos) (fun ρ s => bnd (ca ρ s) fun x s1 => bnd (cb ρ s1) fun y s2 => pur s2 (binD o s2 x y)) := by
  cases o with
  | add => exact se_bin opr_add bin_add' ha hb
  | sub => exact se_bin op_sub bin_sub ha hb
  | mul => exact se_bin opr_mul bin_mul' ha hb
  | fdiv => exact se_bin op_fdivN bin_fdiv ha hb
  | mod => exact se_bin op_modN bin_mod ha hb
  | pow => exact se_bin op_pow bin_pow ha hb
/-- the rule of a comparison -/
theorem cmp_rule (hu : C.X.A.units + 65 < cLine) (o : CO) : ∃ r, OpR C.X (compareOp (coOf o)) r ∧ BinOk C r (fun s x y => (cmpD o s x y).map .bl) := by
  cases o with
  | lt => exact ⟨_, op_lt, bin_lt⟩
  | le => exact ⟨_, op_le, bin_le⟩
  | gt => exact ⟨_, op_gt, bin_gt⟩
  | ge => exact ⟨_, op_ge, bin_ge⟩
  | eq => exact ⟨_, op_eqD (by omega), bin_eq⟩
  | ne => exact ⟨_, op_neD (by omega), bin_ne⟩
  | isin => exact ⟨_, opr_in hu, bin_in⟩
  | notin => exact ⟨_, opr_notin hu, bin_notin⟩
  | is_ => exact ⟨_, opr_is, bin_is⟩
  | isnot => exact ⟨_, opr_isnot, bin_isnot⟩
theorem mem_blt {x : Str} (h : bltNames.contains x = true) : x ∈ bltNames := List.contains_iff_mem.mp h
theorem bi_ne (b : BI) : biName b ∈ bltNames ∧ biName b ≠ "__name__" ∧ (biName b == ("__debug__" : Str)) = false := by
  refine ⟨mem_blt ?_, ?_, ?_⟩ <;> cases b <;> decide +kernel
theorem ty_blt (t : Ty) : tyN t ∈ ["int", "bool", "str", "tuple", "list"] := by cases t <;> simp [tyN]
theorem ty_blt' (t : Ty) : ((tyN t : String) : Str) ∈ bltNames := mem_blt (by cases t <;> decide +kernel)
theorem str_blt (x : String) (h : bltNames.contains (x : Str) = true) : (x : Str) ∈ bltNames := mem_blt h
/-- a call of a built-in function -/
theorem se_biO {b : BI} {y : Expr} {xs : List Expr} {p pos : Pos} {cs : Env → Sto → Option (Out (List D))} (G : GOk T CT C) (hg : Gl C.X (biName b)) (hst : (y :: xs).any isStar = false) (h : SA C (y :: xs) cs) :
    SE C (.Call (.Name (biName b) p) (y :: xs) [] pos) (fun ρ s => bnd (cs ρ s) fun xs s1 => pur s1 (biD b s1 xs)) := by
  obtain ⟨h1, h2, h3⟩ := bi_ne b
  have hm := G.blt _ h1
  cases b with
  | len => exact se_biB bi_len hg hm (by decide +kernel) h2 h3 hst h
  | int => exact se_biT bi_int hg hm (by decide +kernel) h2 h3 hst h
  | max => exact se_biB (bi_max G.calm) hg hm (by decide +kernel) h2 h3 hst h
  | min => exact se_biB (bi_min G.calm) hg hm (by decide +kernel) h2 h3 hst h
  | sum => exact se_biB (bi_sum G.calm) hg hm (by decide +kernel) h2 h3 hst h
  | all => exact se_biB (bi_all G.calm) hg hm (by decide +kernel) h2 h3 hst h
  | list => exact se_biT bi_list hg hm (by decide +kernel) h2 h3 hst h
  | tuple => exact se_biT bi_tuple hg hm (by decide +kernel) h2 h3 hst h
  | repr => exact se_biB bi_repr hg hm (by decide +kernel) h2 h3 hst h
theorem nstar {x : Expr} (h : (!isStar x) = true) : isStar x = false := by simpa using h
theorem ncont {n : Str} (h : (!(pfields.contains n)) = true) : n ∉ pfields := fun z => by
  have := List.contains_iff_mem.mpr z
  rw [this] at h
  cases h
theorem nif {x : Expr} (h : (!isIf x) = true) : isIf x = false := by simpa using h
/-- targets -/
structure ChdT (N : List Str) (t : E) : Prop where
  tg : ∀ (C : Ct) (bd : Bool) (sc : Scope) (x : Expr), C.X.calm = true → C.X.N.Nodup → C.X.N = N → C.X.env.scope = sc → (bd = true → ∀ n, C.X.fn n = true) → chkT N bd t sc x = true → PG C.X x (tT C.X.K C.L t)
  tgs : ∀ (C : Ct) (bd : Bool) (sc : Scope) (xs : List Expr), C.X.calm = true → C.X.N.Nodup → C.X.N = N → C.X.env.scope = sc → (bd = true → ∀ n, C.X.fn n = true) → chkTs N bd t sc xs = true → xs.any isStar = false → PGs C.X xs (tTs C.X.K C.L t)
  len : ∀ (sc : Scope) (bd : Bool) (xs : List Expr), chkTs N bd t sc xs = true → ∀ (ds : List D) (ρ ρ' : Env), bindTs t ds ρ = some ρ' → ds.length = xs.length
theorem chdT_none {t : E} (h1 : ∀ bd sc x, chkT N bd t sc x = false) (h2 : ∀ bd sc xs, chkTs N bd t sc xs = false) : ChdT N t :=
  ⟨fun C bd sc x _ _ _ _ _ h => (by rw [h1] at h; cases h), fun C bd sc xs _ _ _ _ _ h _ => (by rw [h2] at h; cases h), fun sc bd xs h => (by rw [h2] at h; cases h)⟩
theorem tg_ok (t : E) : ChdT N t := by
  induction t with
  | tnm i =>
    refine ⟨fun C bd sc x hc hN hN' hs hb h => ?_, fun C bd sc xs _ _ _ _ _ h _ => (Bool.false_ne_true h).elim, fun sc bd xs h => (Bool.false_ne_true h).elim⟩
    cases x with
    | Name n p =>
      have h : (decide (N[i]? = some n) && locB bd sc n) = true := h
      rw [Bool.and_eq_true] at h
      obtain ⟨h1, h2⟩ := h
      have h1 := of_decide_eq_true h1
      subst hN' hs
      unfold locB at h2
      split at h2
      · exact sg_name hN h1 (.inl (by assumption)) (.inr (by assumption))
      · exact sg_name hN h1 (.inr (by assumption)) (.inl (hb h2 n))
      · cases h2
    | _ => exact (Bool.false_ne_true h).elim
  | ttp es ih =>
    refine ⟨fun C bd sc x hc hN hN' hs hb h => ?_, fun C bd sc xs _ _ _ _ _ h _ => (Bool.false_ne_true h).elim, fun sc bd xs h => (Bool.false_ne_true h).elim⟩
    cases x with
    | Tuple xs k p =>
      have h : (!(xs.any isStar) && chkTs N bd es sc xs) = true := h
      rw [Bool.and_eq_true] at h
      obtain ⟨h1, h2⟩ := h
      have h1 : xs.any isStar = false := by simpa using h1
      exact sg_tup hc h1 (ih.tgs C bd sc xs hc hN hN' hs hb h2 h1) (fun ds ρ ρ' e => (ih.len sc bd xs h2 ds ρ ρ' e))
    | _ => exact (Bool.false_ne_true h).elim
  | nil =>
    refine ⟨fun C bd sc x hc hN hN' hs hb h => (Bool.false_ne_true h).elim, fun C bd sc xs hc hN hN' hs hb h hst => ?_, fun sc bd xs h ds ρ ρ' e => ?_⟩
    · cases xs with
      | nil => exact sgs_nil
      | cons x r => exact (Bool.false_ne_true h).elim
    · cases xs with
      | nil =>
        cases ds with
        | nil => rfl
        | cons d ds => cases e
      | cons x r => exact (Bool.false_ne_true h).elim
  | cons a b iha ihb =>
    refine ⟨fun C bd sc x hc hN hN' hs hb h => (Bool.false_ne_true h).elim, fun C bd sc xs hc hN hN' hs hb h hst => ?_, fun sc bd xs h ds ρ ρ' e => ?_⟩
    · cases xs with
      | nil => exact (Bool.false_ne_true h).elim
      | cons x r =>
        have h : (chkT N bd a sc x && chkTs N bd b sc r) = true := h
        rw [Bool.and_eq_true] at h
        rw [List.any_cons, Bool.or_eq_false_iff] at hst
        exact sgs_cons hst.1 (iha.tg C bd sc x hc hN hN' hs hb h.1) (ihb.tgs C bd sc r hc hN hN' hs hb h.2 hst.2)
    · cases xs with
      | nil => exact (Bool.false_ne_true h).elim
      | cons x r =>
        have h : (chkT N bd a sc x && chkTs N bd b sc r) = true := h
        rw [Bool.and_eq_true] at h
        cases ds with
        | nil => cases e
        | cons d ds =>
          have e : (match bindT a d ρ with | some ρ' => bindTs b ds ρ' | none => none) = some ρ' := e
          split at e
          · rw [List.length_cons, List.length_cons, ihb.len sc bd r h.2 ds _ _ e]
          · cases e
  | _ => exact chdT_none (fun _ _ _ => rfl) (fun _ _ _ => rfl)

/-- THE THEOREM for expressions -/
theorem chd (e : E) : Chd T CT N e := by
  induction e with
  | var i =>
    refine chd_plain (fun _ _ => rfl) (fun _ _ => rfl) (fun _ _ _ => rfl) (fun sc x h => ?_) fun C sc x G hN hs h => ?_
    · cases x <;> first | rfl | exact (Bool.false_ne_true h).elim
    · cases x with
      | Name n p =>
        have h : (decide (N[i]? = some n) && visB sc n && notDbg n) = true := h
        simp only [Bool.and_eq_true] at h
        obtain ⟨⟨h1, h2⟩, h3⟩ := h
        subst hN
        obtain ⟨h4, h5⟩ := notDbg_ok h3
        exact se_var (of_decide_eq_true h1) (visB_ok hs h2) h4 h5
      | _ => exact (Bool.false_ne_true h).elim
  | cint i =>
    refine chd_plain (fun _ _ => rfl) (fun _ _ => rfl) (fun _ _ _ => rfl) (fun sc x h => ?_) fun C sc x G hN hs h => ?_
    · cases x <;> first | rfl | exact (Bool.false_ne_true h).elim
    · simp only [chk] at h
      split at h
      · have e := of_decide_eq_true h
        subst e
        exact se_const pe_int fun _ _ => rfl
      · cases h
  | cstr i =>
    refine chd_plain (fun _ _ => rfl) (fun _ _ => rfl) (fun _ _ _ => rfl) (fun sc x h => ?_) fun C sc x G hN hs h => ?_
    · cases x <;> first | rfl | exact (Bool.false_ne_true h).elim
    · simp only [chk] at h
      split at h
      · have e := of_decide_eq_true h
        subst e
        exact se_const pe_str fun _ _ => rfl
      · cases h
  | cbl i =>
    refine chd_plain (fun _ _ => rfl) (fun _ _ => rfl) (fun _ _ _ => rfl) (fun sc x h => ?_) fun C sc x G hN hs h => ?_
    · cases x <;> first | rfl | exact (Bool.false_ne_true h).elim
    · simp only [chk] at h
      split at h
      · have e := of_decide_eq_true h
        subst e
        exact se_const pe_bl fun _ _ => rfl
      · cases h
  | cnon =>
    refine chd_plain (fun _ _ => rfl) (fun _ _ => rfl) (fun _ _ _ => rfl) (fun sc x h => ?_) fun C sc x G hN hs h => ?_
    · cases x <;> first | rfl | exact (Bool.false_ne_true h).elim
    · simp only [chk] at h
      split at h
      · exact se_const pe_non fun _ _ => rfl
      · cases h
  | g i =>
    refine chd_plain (fun _ _ => rfl) (fun _ _ => rfl) (fun _ _ _ => rfl) (fun sc x h => ?_) fun C sc x G hN hs h => ?_
    · cases x <;> first | rfl | exact (Bool.false_ne_true h).elim
    · cases x with
      | Name n p =>
        have h : (decide (T.nm i = n) && T.isC i && glB sc n && notDbg n) = true := h
        simp only [Bool.and_eq_true] at h
        obtain ⟨⟨⟨h1, h2⟩, h3⟩, h6⟩ := h
        have e := of_decide_eq_true h1
        subst e
        obtain ⟨h4, h5⟩ := notDbg_ok h6
        obtain ⟨d, v, u, g1, g2, g3, g4⟩ := G.con i h2
        refine SE.congr (se_const (pe_glob (glB_ok hs h3) g1 g2 h4) g3) fun ρ s => ?_
        exact (g4 s).symm
      | _ => exact (Bool.false_ne_true h).elim
  | bin o a b iha ihb =>
    refine chd_plain (fun _ _ => rfl) (fun _ _ => rfl) (fun _ _ _ => rfl) (fun sc x h => ?_) fun C sc x G hN hs h => ?_
    · cases x <;> first | rfl | exact (Bool.false_ne_true h).elim
    · cases x with
      | BinOp l op r p =>
        have h : (decide (opOf o = op) && chk T N a sc l && chk T N b sc r) = true := h
        simp only [Bool.and_eq_true] at h
        obtain ⟨⟨h1, h2⟩, h3⟩ := h
        have e := of_decide_eq_true h1
        subst e
        exact se_binO (iha.se C sc l G hN hs h2) (ihb.se C sc r G hN hs h3)
      | _ => exact (Bool.false_ne_true h).elim
  | neg a iha =>
    refine chd_plain (fun _ _ => rfl) (fun _ _ => rfl) (fun _ _ _ => rfl) (fun sc x h => ?_) fun C sc x G hN hs h => ?_
    · cases x with
      | UnaryOp op l p => cases op <;> first | rfl | exact (Bool.false_ne_true h).elim
      | _ => exact (Bool.false_ne_true h).elim
    · simp only [chk] at h
      split at h
      · exact se_neg (iha.se C sc _ G hN hs h)
      · cases h
  | not a iha =>
    have key : ∀ (C : Ct) (sc : Scope) (x : Expr), GOk T CT C → C.X.N = N → C.X.env.scope = sc → chk T N (.not a) sc x = true → SE C x (ev CT (.not a)) ∧ ST C x (ev CT (.not a)) := fun C sc x G hN hs h => by
      simp only [chk] at h
      split at h
      · simp only [Bool.and_eq_true] at h
        exact ⟨se_not (iha.se C sc _ G hN hs h.2), st_not (iha.st C sc _ G hN hs h.2 (nif h.1))⟩
      · cases h
    exact ⟨fun C sc x G hN hs h => (key C sc x G hN hs h).1, fun C sc x G hN hs h _ => (key C sc x G hN hs h).2, fun C sc op vs pos G hN hs h => (Bool.false_ne_true h).elim, fun C sc xs G hN hs h => (Bool.false_ne_true h).elim, fun C sc xs G hN hs h => (Bool.false_ne_true h).elim, fun C sc tg xs G hN hs h => (Bool.false_ne_true h).elim⟩
  | cmp o a b iha ihb =>
    have key : ∀ (C : Ct) (sc : Scope) (x : Expr), GOk T CT C → C.X.N = N → C.X.env.scope = sc → chk T N (.cmp o a b) sc x = true → SE C x (ev CT (.cmp o a b)) ∧ ST C x (ev CT (.cmp o a b)) := fun C sc x G hN hs h => by
      simp only [chk] at h
      split at h
      · simp only [Bool.and_eq_true] at h
        obtain ⟨⟨⟨h1, h2⟩, h3⟩, h4⟩ := h
        have e := of_decide_eq_true h1
        subst e
        have h2 := (by simpa using h2 : behindInMarks (coOf o) _ = false)
        obtain ⟨r, r1, r2⟩ := cmp_rule G.un o
        exact ⟨se_cmp r1 r2 h2 (iha.se C sc _ G hN hs h3) (ihb.se C sc _ G hN hs h4), st_cmp r1 r2 h2 (iha.se C sc _ G hN hs h3) (ihb.se C sc _ G hN hs h4)⟩
      · cases h
    exact ⟨fun C sc x G hN hs h => (key C sc x G hN hs h).1, fun C sc x G hN hs h _ => (key C sc x G hN hs h).2, fun C sc op vs pos G hN hs h => (Bool.false_ne_true h).elim, fun C sc xs G hN hs h => (Bool.false_ne_true h).elim, fun C sc xs G hN hs h => (Bool.false_ne_true h).elim, fun C sc tg xs G hN hs h => (Bool.false_ne_true h).elim⟩
  | chn o p a b c iha ihb ihc =>
    have key : ∀ (C : Ct) (sc : Scope) (x : Expr), GOk T CT C → C.X.N = N → C.X.env.scope = sc → chk T N (.chn o p a b c) sc x = true → SE C x (ev CT (.chn o p a b c)) ∧ ST C x (ev CT (.chn o p a b c)) := fun C sc x G hN hs h => by
      simp only [chk] at h
      split at h
      · simp only [Bool.and_eq_true] at h
        obtain ⟨⟨⟨⟨⟨h1, h2⟩, h3⟩, h4⟩, h5⟩, h6⟩ := h
        have e := of_decide_eq_true h1
        subst e
        have e := of_decide_eq_true h2
        subst e
        have h3 := (by simpa using h3 : lastMarks [coOf o, coOf p] _ = false)
        obtain ⟨r, r1, r2⟩ := cmp_rule G.un o
        obtain ⟨r', r1', r2'⟩ := cmp_rule G.un p
        exact ⟨se_chn r1 r1' r2 r2' h3 (iha.se C sc _ G hN hs h4) (ihb.se C sc _ G hN hs h5) (ihc.se C sc _ G hN hs h6), st_chn r1 r1' r2 r2' h3 (iha.se C sc _ G hN hs h4) (ihb.se C sc _ G hN hs h5) (ihc.se C sc _ G hN hs h6)⟩
      · cases h
    exact ⟨fun C sc x G hN hs h => (key C sc x G hN hs h).1, fun C sc x G hN hs h _ => (key C sc x G hN hs h).2, fun C sc op vs pos G hN hs h => (Bool.false_ne_true h).elim, fun C sc xs G hN hs h => (Bool.false_ne_true h).elim, fun C sc xs G hN hs h => (Bool.false_ne_true h).elim, fun C sc tg xs G hN hs h => (Bool.false_ne_true h).elim⟩
  | chn3 o p q a b c d iha ihb ihc ihd =>
    have key : ∀ (C : Ct) (sc : Scope) (x : Expr), GOk T CT C → C.X.N = N → C.X.env.scope = sc → chk T N (.chn3 o p q a b c d) sc x = true → SE C x (ev CT (.chn3 o p q a b c d)) ∧ ST C x (ev CT (.chn3 o p q a b c d)) := fun C sc x G hN hs h => by
      simp only [chk] at h
      split at h
      · simp only [Bool.and_eq_true] at h
        obtain ⟨⟨⟨⟨⟨⟨⟨h1, h2⟩, h0⟩, h3⟩, h4⟩, h5⟩, h6⟩, h7⟩ := h
        have e := of_decide_eq_true h1
        subst e
        have e := of_decide_eq_true h2
        subst e
        have e := of_decide_eq_true h0
        subst e
        have h3 := (by simpa using h3 : lastMarks [coOf o, coOf p, coOf q] _ = false)
        obtain ⟨r'', r1'', r2''⟩ := cmp_rule G.un q
        obtain ⟨r, r1, r2⟩ := cmp_rule G.un o
        obtain ⟨r', r1', r2'⟩ := cmp_rule G.un p
        exact ⟨se_chn3 r1 r1' r1'' r2 r2' r2'' h3 (iha.se C sc _ G hN hs h4) (ihb.se C sc _ G hN hs h5) (ihc.se C sc _ G hN hs h6) (ihd.se C sc _ G hN hs h7), st_chn3 r1 r1' r1'' r2 r2' r2'' h3 (iha.se C sc _ G hN hs h4) (ihb.se C sc _ G hN hs h5) (ihc.se C sc _ G hN hs h6) (ihd.se C sc _ G hN hs h7)⟩
      · cases h
    exact ⟨fun C sc x G hN hs h => (key C sc x G hN hs h).1, fun C sc x G hN hs h _ => (key C sc x G hN hs h).2, fun C sc op vs pos G hN hs h => (Bool.false_ne_true h).elim, fun C sc xs G hN hs h => (Bool.false_ne_true h).elim, fun C sc xs G hN hs h => (Bool.false_ne_true h).elim, fun C sc tg xs G hN hs h => (Bool.false_ne_true h).elim⟩
  | dst a iha =>
    refine chd_plain (fun _ _ => rfl) (fun _ _ => rfl) (fun _ _ _ => rfl) (fun sc x h => ?_) fun C sc x G hN hs h => ?_
    · cases x <;> first | rfl | exact (Bool.false_ne_true h).elim
    · simp only [chk] at h
      split at h
      · simp only [Bool.and_eq_true] at h
        obtain ⟨⟨⟨⟨⟨h1, h2⟩, h3⟩, h4⟩, h5⟩, h7⟩ := h
        have e := of_decide_eq_true h1
        subst e
        have e := of_decide_eq_true h2
        subst e
        exact se_dst (glB_ok hs h3) (G.blt _ (str_blt "len" (by decide +kernel))) (glB_ok hs h4) (G.blt _ (str_blt "set" (by decide +kernel))) G.calm (nstar h5) (iha.se C sc _ G hN hs h7)
      · cases h
  | and a b iha ihb =>
    have key : ∀ (C : Ct) (sc : Scope) (x : Expr), GOk T CT C → C.X.N = N → C.X.env.scope = sc → chk T N (.and a b) sc x = true → SE C x (ev CT (.and a b)) ∧ SW C x (ev CT (.and a b)) := fun C sc x G hN hs h => by
      simp only [chk] at h
      split at h
      · simp only [Bool.and_eq_true] at h
        obtain ⟨⟨h1, h2⟩, h3⟩ := h
        split at h3
        · simp only [Bool.and_eq_true] at h3
          exact ⟨se_and (iha.se C sc _ G hN hs h2) (pe_one (ihb.se C sc _ G hN hs h3.2)), sw_and (iha.st C sc _ G hN hs h2 (nif h1)) (pw_and1 (ihb.st C sc _ G hN hs h3.2 (nif h3.1)))⟩
        · exact ⟨se_and (iha.se C sc _ G hN hs h2) (ihb.se C sc _ G hN hs h3), sw_and (iha.st C sc _ G hN hs h2 (nif h1)) (ihb.sw C sc _ _ _ G hN hs h3)⟩
      · cases h
    exact ⟨fun C sc x G hN hs h => (key C sc x G hN hs h).1, fun C sc x G hN hs h _ => (key C sc x G hN hs h).2.pt, fun C sc op vs pos G hN hs h => (key C sc _ G hN hs h).2, fun C sc xs G hN hs h => (Bool.false_ne_true h).elim, fun C sc xs G hN hs h => (Bool.false_ne_true h).elim, fun C sc tg xs G hN hs h => (Bool.false_ne_true h).elim⟩
  | or a b iha ihb =>
    have key : ∀ (C : Ct) (sc : Scope) (x : Expr), GOk T CT C → C.X.N = N → C.X.env.scope = sc → chk T N (.or a b) sc x = true → SE C x (ev CT (.or a b)) ∧ SW C x (ev CT (.or a b)) := fun C sc x G hN hs h => by
      simp only [chk] at h
      split at h
      · simp only [Bool.and_eq_true] at h
        obtain ⟨⟨h1, h2⟩, h3⟩ := h
        split at h3
        · simp only [Bool.and_eq_true] at h3
          exact ⟨se_or (iha.se C sc _ G hN hs h2) (pe_one (ihb.se C sc _ G hN hs h3.2)), sw_or (iha.st C sc _ G hN hs h2 (nif h1)) (pw_or1 (ihb.st C sc _ G hN hs h3.2 (nif h3.1)))⟩
        · exact ⟨se_or (iha.se C sc _ G hN hs h2) (ihb.se C sc _ G hN hs h3), sw_or (iha.st C sc _ G hN hs h2 (nif h1)) (ihb.sw C sc _ _ _ G hN hs h3)⟩
      · cases h
    exact ⟨fun C sc x G hN hs h => (key C sc x G hN hs h).1, fun C sc x G hN hs h _ => (key C sc x G hN hs h).2.pt, fun C sc op vs pos G hN hs h => (key C sc _ G hN hs h).2, fun C sc xs G hN hs h => (Bool.false_ne_true h).elim, fun C sc xs G hN hs h => (Bool.false_ne_true h).elim, fun C sc tg xs G hN hs h => (Bool.false_ne_true h).elim⟩
  | ite c a b ihc iha ihb =>
    refine ⟨fun C sc x G hN hs h => ?_, fun C sc x G hN hs h hi => ?_, fun C sc op vs pos G hN hs h => (Bool.false_ne_true h).elim, fun C sc xs G hN hs h => (Bool.false_ne_true h).elim, fun C sc xs G hN hs h => (Bool.false_ne_true h).elim, fun C sc tg xs G hN hs h => (Bool.false_ne_true h).elim⟩
    · simp only [chk] at h
      split at h
      · simp only [Bool.and_eq_true] at h
        obtain ⟨⟨⟨h1, h2⟩, h3⟩, h4⟩ := h
        exact se_ite (ihc.st C sc _ G hN hs h2 (nif h1)) (iha.se C sc _ G hN hs h3) (ihb.se C sc _ G hN hs h4)
      · cases h
    · simp only [chk] at h
      split at h
      · cases hi
      · cases h
  | tup es ih =>
    refine chd_plain (fun _ _ => rfl) (fun _ _ => rfl) (fun _ _ _ => rfl) (fun sc x h => ?_) fun C sc x G hN hs h => ?_
    · cases x <;> first | rfl | exact (Bool.false_ne_true h).elim
    · simp only [chk] at h
      split at h
      · exact se_tup (ih.sa C sc _ G hN hs h).1
      · cases h
  | lst m es ih =>
    refine chd_plain (fun _ _ => rfl) (fun _ _ => rfl) (fun _ _ _ => rfl) (fun sc x h => ?_) fun C sc x G hN hs h => ?_
    · cases x <;> first | rfl | exact (Bool.false_ne_true h).elim
    · simp only [chk] at h
      split at h
      · exact se_lst (ih.sa C sc _ G hN hs h).1
      · cases h
  | nil =>
    refine ⟨fun C sc x G hN hs h => (Bool.false_ne_true h).elim, fun C sc x G hN hs h => (Bool.false_ne_true h).elim, fun C sc op vs pos G hN hs h => (Bool.false_ne_true h).elim, fun C sc xs G hN hs h => ?_, fun C sc x G hN hs h => ?_, fun C sc tg xs G hN hs h => (Bool.false_ne_true h).elim⟩
    · cases xs with
      | nil => exact ⟨sa_nil, rfl⟩
      | cons x r => exact (Bool.false_ne_true h).elim
    · cases x with
      | none => exact so_none
      | some e => exact (Bool.false_ne_true h).elim
  | cons a b iha ihb =>
    refine ⟨fun C sc x G hN hs h => (Bool.false_ne_true h).elim, fun C sc x G hN hs h => (Bool.false_ne_true h).elim, fun C sc op vs pos G hN hs h => (Bool.false_ne_true h).elim, fun C sc xs G hN hs h => ?_, fun C sc x G hN hs h => (Bool.false_ne_true h).elim, fun C sc tg xs G hN hs h => (Bool.false_ne_true h).elim⟩
    cases xs with
    | nil => exact (Bool.false_ne_true h).elim
    | cons x r =>
      have h : (!(isStar x) && chk T N a sc x && chks T N b sc r) = true := h
      simp only [Bool.and_eq_true] at h
      obtain ⟨⟨h1, h2⟩, h3⟩ := h
      obtain ⟨h4, h5⟩ := ihb.sa C sc r G hN hs h3
      exact ⟨sa_cons (nstar h1) (iha.se C sc x G hN hs h2) h4, by rw [List.any_cons, nstar h1, h5]; rfl⟩
  | err f es ih =>
    refine chd_plain (fun _ _ => rfl) (fun _ _ => rfl) (fun _ _ _ => rfl) (fun sc x h => ?_) fun C sc x G hN hs h => ?_
    · cases x <;> first | rfl | exact (Bool.false_ne_true h).elim
    · simp only [chk] at h
      split at h
      · simp only [Bool.and_eq_true] at h
        obtain ⟨⟨⟨⟨⟨⟨h1, h2⟩, h3⟩, h4⟩, h5⟩, h6⟩, h7⟩ := h
        have e := of_decide_eq_true h1
        subst e
        have e := of_decide_eq_true h3
        subst e
        obtain ⟨q1, q2⟩ := ih.sa C sc _ G hN hs h7
        exact se_err (G.er f h4) G.tk (glB_ok hs h2) (glB_ok hs h5) (notDbg_ok h6).1 q2 q1
      · simp only [Bool.and_eq_true] at h
        obtain ⟨⟨⟨⟨⟨h1, h2⟩, h3⟩, h4⟩, h5⟩, h6⟩ := h
        have e := of_decide_eq_true h1
        subst e
        obtain ⟨q1, q2⟩ := ih.sa C sc _ G hN hs h6
        exact se_errl (G.lam f _ _ _ h3) G.tk (glB_ok hs h2) h4 h5 q2 q1
      · cases h
  | call f es ih =>
    refine chd_plain (fun _ _ => rfl) (fun _ _ => rfl) (fun _ _ _ => rfl) (fun sc x h => ?_) fun C sc x G hN hs h => ?_
    · cases x <;> first | rfl | exact (Bool.false_ne_true h).elim
    · simp only [chk] at h
      split at h
      · rename_i n p xs pos
        simp only [Bool.and_eq_true] at h
        obtain ⟨⟨⟨⟨h1, h2⟩, h3⟩, h4⟩, h5⟩ := h
        have e := of_decide_eq_true h1
        subst e
        obtain ⟨h6, h7⟩ := ih.sa C sc xs G hN hs h5
        cases xs with
        | nil =>
          have e : ∀ ρ s, evs CT es ρ s = some (.ok [] s) := by
            cases es with
            | nil => exact fun _ _ => rfl
            | cons a b => exact (Bool.false_ne_true h5).elim
            | _ => exact (Bool.false_ne_true h5).elim
          refine SE.congr (se_call0 (G.fn f h2) G.tk (glB_ok hs h3) (notDbg_ok h4).1) fun ρ s => ?_
          show CT f [] s = bnd (evs CT es ρ s) fun xs s1 => CT f xs s1
          rw [e]
          rfl
        | cons y r => exact se_call (G.fn f h2) G.tk (glB_ok hs h3) (notDbg_ok h4).1 h7 h6
      · cases h
  | bi b es ih =>
    refine chd_plain (fun _ _ => rfl) (fun _ _ => rfl) (fun _ _ _ => rfl) (fun sc x h => ?_) fun C sc x G hN hs h => ?_
    · cases x <;> first | rfl | exact (Bool.false_ne_true h).elim
    · simp only [chk] at h
      split at h
      · simp only [Bool.and_eq_true] at h
        obtain ⟨⟨h1, h2⟩, h3⟩ := h
        have e := of_decide_eq_true h1
        subst e
        obtain ⟨h6, h7⟩ := ih.sa C sc _ G hN hs h3
        exact se_biO G (glB_ok hs h2) h7 h6
      · cases h
  | isi a ts iha =>
    refine chd_plain (fun _ _ => rfl) (fun _ _ => rfl) (fun _ _ _ => rfl) (fun sc x h => ?_) fun C sc x G hN hs h => ?_
    · cases x <;> first | rfl | exact (Bool.false_ne_true h).elim
    · simp only [chk] at h
      split at h
      · simp only [Bool.and_eq_true] at h
        obtain ⟨⟨⟨⟨⟨h1, h2⟩, h3⟩, h4⟩, h5⟩, h6⟩ := h
        have e := of_decide_eq_true h1
        subst e
        split at h5
        · have e := of_decide_eq_true h5
          subst e
          exact se_isi1 (glB_ok hs h2) (G.blt _ (str_blt "isinstance" (by decide +kernel))) (nstar h4) (glB_ok hs h3) (G.blt _ (ty_blt' _)) (iha.se C sc _ G hN hs h6)
        · cases h5
      · simp only [Bool.and_eq_true] at h
        obtain ⟨⟨⟨⟨⟨⟨h1, h2⟩, h3⟩, h4⟩, h5⟩, h6⟩, h7⟩ := h
        have e := of_decide_eq_true h1
        subst e
        split at h6
        · simp only [Bool.and_eq_true] at h6
          have e := of_decide_eq_true h6.1
          subst e
          have e := of_decide_eq_true h6.2
          subst e
          exact se_isi2 (glB_ok hs h2) (G.blt _ (str_blt "isinstance" (by decide +kernel))) (nstar h5) (glB_ok hs h3) (G.blt _ (ty_blt' _)) (glB_ok hs h4) (G.blt _ (ty_blt' _)) (iha.se C sc _ G hN hs h7)
        · cases h6
      · cases h
  | idx a i iha ihi =>
    refine chd_plain (fun _ _ => rfl) (fun _ _ => rfl) (fun _ _ _ => rfl) (fun sc x h => ?_) fun C sc x G hN hs h => ?_
    · cases x <;> first | rfl | exact (Bool.false_ne_true h).elim
    · simp only [chk] at h
      split at h
      · simp only [Bool.and_eq_true] at h
        obtain ⟨⟨h1, h2⟩, h3⟩ := h
        exact se_idx (by have := G.un; omega) (by simpa using h1) (iha.se C sc _ G hN hs h2) (ihi.se C sc _ G hN hs h3)
      · cases h
  | slc a lo hi iha ihl ihh =>
    refine chd_plain (fun _ _ => rfl) (fun _ _ => rfl) (fun _ _ _ => rfl) (fun sc x h => ?_) fun C sc x G hN hs h => ?_
    · cases x <;> first | rfl | exact (Bool.false_ne_true h).elim
    · simp only [chk] at h
      split at h
      · simp only [Bool.and_eq_true] at h
        obtain ⟨⟨h1, h2⟩, h3⟩ := h
        exact se_slc (iha.se C sc _ G hN hs h1) (ihl.so C sc _ G hN hs h2) (ihh.so C sc _ G hN hs h3)
      · cases h
  | rev a iha =>
    refine chd_plain (fun _ _ => rfl) (fun _ _ => rfl) (fun _ _ _ => rfl) (fun sc x h => ?_) fun C sc x G hN hs h => ?_
    · cases x <;> first | rfl | exact (Bool.false_ne_true h).elim
    · simp only [chk] at h
      split at h
      · simp only [Bool.and_eq_true] at h
        have e := of_decide_eq_true h.1
        subst e
        exact se_rev (iha.se C sc _ G hN hs h.2)
      · cases h
  | revT a iha =>
    refine chd_plain (fun _ _ => rfl) (fun _ _ => rfl) (fun _ _ _ => rfl) (fun sc x h => ?_) fun C sc x G hN hs h => ?_
    · cases x <;> first | rfl | exact (Bool.false_ne_true h).elim
    · simp only [chk] at h
      split at h
      · simp only [Bool.and_eq_true] at h
        have e := of_decide_eq_true h.1
        subst e
        exact se_revT (iha.se C sc _ G hN hs h.2)
      · cases h
  | stp a i iha ihi =>
    refine chd_plain (fun _ _ => rfl) (fun _ _ => rfl) (fun _ _ _ => rfl) (fun sc x h => ?_) fun C sc x G hN hs h => ?_
    · cases x <;> first | rfl | exact (Bool.false_ne_true h).elim
    · simp only [chk] at h
      split at h
      · simp only [Bool.and_eq_true] at h
        obtain ⟨⟨h1, h2⟩, h3⟩ := h
        have e := of_decide_eq_true h1
        subst e
        exact se_stp (iha.se C sc _ G hN hs h2) (ihi.se C sc _ G hN hs h3)
      · cases h
  | lix a i iha ihi =>
    refine chd_plain (fun _ _ => rfl) (fun _ _ => rfl) (fun _ _ _ => rfl) (fun sc x h => ?_) fun C sc x G hN hs h => ?_
    · cases x <;> first | rfl | exact (Bool.false_ne_true h).elim
    · simp only [chk] at h
      split at h
      · simp only [Bool.and_eq_true] at h
        obtain ⟨⟨⟨⟨h1, h2⟩, h3⟩, h4⟩, h5⟩ := h
        have e := of_decide_eq_true h1
        subst e
        exact se_lix (nstar h2) rfl h3 (iha.se C sc _ G hN hs h4) (ihi.se C sc _ G hN hs h5)
      · cases h
  | lrng a b iha ihb =>
    refine chd_plain (fun _ _ => rfl) (fun _ _ => rfl) (fun _ _ _ => rfl) (fun sc x h => ?_) fun C sc x G hN hs h => ?_
    · cases x <;> first | rfl | exact (Bool.false_ne_true h).elim
    · simp only [chk] at h
      split at h
      · simp only [Bool.and_eq_true] at h
        obtain ⟨⟨⟨⟨⟨⟨⟨h1, h2⟩, h3⟩, h4⟩, h5⟩, h6⟩, h7⟩, h8⟩ := h
        have e := of_decide_eq_true h1
        subst e
        have e := of_decide_eq_true h2
        subst e
        exact se_lrng (glB_ok hs h3) (G.blt _ (str_blt "list" (by decide +kernel))) (glB_ok hs h4) (G.blt _ (str_blt "range" (by decide +kernel))) G.calm (nstar h5) (nstar h6) (iha.se C sc _ G hN hs h7) (ihb.se C sc _ G hN hs h8)
      · cases h
  | dnew =>
    refine chd_plain (fun _ _ => rfl) (fun _ _ => rfl) (fun _ _ _ => rfl) (fun sc x h => ?_) fun C sc x G hN hs h => ?_
    · cases x <;> first | rfl | exact (Bool.false_ne_true h).elim
    · simp only [chk] at h
      split at h
      · exact se_dnew
      · cases h
  | lrng1 a iha =>
    refine chd_plain (fun _ _ => rfl) (fun _ _ => rfl) (fun _ _ _ => rfl) (fun sc x h => ?_) fun C sc x G hN hs h => ?_
    · cases x <;> first | rfl | exact (Bool.false_ne_true h).elim
    · simp only [chk] at h
      split at h
      · simp only [Bool.and_eq_true] at h
        obtain ⟨⟨⟨⟨⟨h1, h2⟩, h3⟩, h4⟩, h5⟩, h7⟩ := h
        have e := of_decide_eq_true h1
        subst e
        have e := of_decide_eq_true h2
        subst e
        exact se_lrng1 (glB_ok hs h3) (G.blt _ (str_blt "list" (by decide +kernel))) (glB_ok hs h4) (G.blt _ (str_blt "range" (by decide +kernel))) G.calm (nstar h5) (iha.se C sc _ G hN hs h7)
      · cases h
  | cpy a iha =>
    refine chd_plain (fun _ _ => rfl) (fun _ _ => rfl) (fun _ _ _ => rfl) (fun sc x h => ?_) fun C sc x G hN hs h => ?_
    · cases x <;> first | rfl | exact (Bool.false_ne_true h).elim
    · simp only [chk] at h
      split at h
      · simp only [Bool.and_eq_true] at h
        obtain ⟨⟨⟨h1, h3⟩, h5⟩, h7⟩ := h
        have e := of_decide_eq_true h1
        subst e
        exact se_cpy (glB_ok hs h3) (G.blt _ (str_blt "list" (by decide +kernel))) (nstar h5) (iha.se C sc _ G hN hs h7)
      · cases h
  | comp own tg elt it cond iht ihe ihi ihc =>
    refine chd_plain (fun _ _ => rfl) (fun _ _ => rfl) (fun _ _ _ => rfl) (fun sc x h => ?_) fun C sc x G hN hs h => ?_
    · cases x <;> first | rfl | exact (Bool.false_ne_true h).elim
    · simp only [chk] at h
      split at h
      · rename_i e tg' it' ifs scope pos
        simp only [Bool.and_eq_true] at h
        obtain ⟨⟨⟨⟨⟨⟨⟨h1, h2⟩, h3⟩, h4⟩, h5⟩, h6⟩, h7⟩, h8⟩ := h
        have e3 := of_decide_eq_true h3
        have hset : ∀ v, foldedSetIterable it' C.X.env v = pure v := fun v => by
          cases it' <;> first | rfl | cases h6
        have hblk : ∀ (s : Shared) (H : Hp) (A : Addr) (cl : List (Str × Addr)) (fp : List Addr), (C.blk (C.X.blk s H scope (compEnvC scope cl A C.X.env) fp)).X.env.scope = relS scope sc := fun s H A cl fp => by
          subst hs
          rfl
        have hpt : ∀ (s : Shared) (H : Hp) (A : Addr) (cl : List (Str × Addr)) (fp : List Addr), PTs (C.X.blk s H scope (compEnvC scope cl A C.X.env) fp) ifs (tG' C.X.K C.ca C.L (fun _ _ _ _ => False) RB fun ρ s => tst (ev CT cond ρ s)) := fun s H A cl fp => by
          split at h8
          · split at h8
            · refine ⟨fun pins s' σ' H' Q I q => pts_nil.run pins s' σ' H' Q I ?_⟩
              obtain ⟨ρ, m, s1, hR, hP⟩ := q
              exact hP m H' true .refl hR.sr rfl
            · cases h8
          · simp only [Bool.and_eq_true] at h8
            exact pts_one (ihc.st (C.blk (C.X.blk s H scope (compEnvC scope cl A C.X.env) fp)) (relS scope sc) _ (G.blk s H scope cl A fp) hN (hblk s H A cl fp) h8.2 (nif h8.1))
          · cases h8
        subst hN
        have base := pe_lc (pos := pos) (wi := tG C (RI C.X.K) (evi CT it)) (tt := tG' C.X.K C.ca C.L (fun _ _ _ _ => False) RB fun ρ s => tst (ev CT cond ρ s)) (g := tT C.X.K C.L tg) (te := tG' C.X.K C.ca C.L (fun _ _ _ _ => False) (RD C.X.K) (ev CT elt)) (elt := e) G.calm G.nd (ihi.si C sc tg' it' G rfl hs h1) (blkOk_by (own := own.filterMap fun i => (C.X.N[i]?).map fun n => (n, i)) (by rw [hs]; exact h2))
          (fun s H A cl fp => (tg_ok (N := C.X.N) tg).tg (C.blk (C.X.blk s H scope (compEnvC scope cl A C.X.env) fp)) false (relS scope sc) tg' G.calm G.nd rfl (hblk s H A cl fp) (fun z => nomatch z) h5)
          hpt (fun s H A cl fp => ihe.se (C.blk (C.X.blk s H scope (compEnvC scope cl A C.X.env) fp)) (relS scope sc) e (G.blk s H scope cl A fp) rfl (hblk s H A cl fp) h7) hset
        refine PE.imp base fun σ H Q hq => ?_
        refine lc_use (mm := false) (own := own.filterMap fun i => (C.X.N[i]?).map fun n => (n, i)) (fun i hi => ?_) ?_
        · rw [e3]
          exact List.contains_iff_mem.mp (List.all_eq_true.mp h4 i hi)
        · rw [e3]
          exact hq
      · cases h
  | cpm own tg elt it cond iht ihe ihi ihc =>
    refine chd_plain (fun _ _ => rfl) (fun _ _ => rfl) (fun _ _ _ => rfl) (fun sc x h => ?_) fun C sc x G hN hs h => ?_
    · cases x <;> first | rfl | exact (Bool.false_ne_true h).elim
    · simp only [chk] at h
      split at h
      · rename_i e tg' it' ifs scope pos
        simp only [Bool.and_eq_true] at h
        obtain ⟨⟨⟨⟨⟨⟨⟨h1, h2⟩, h3⟩, h4⟩, h5⟩, h6⟩, h7⟩, h8⟩ := h
        have e3 := of_decide_eq_true h3
        have hset : ∀ v, foldedSetIterable it' C.X.env v = pure v := fun v => by
          cases it' <;> first | rfl | cases h6
        have hblk : ∀ (s : Shared) (H : Hp) (A : Addr) (cl : List (Str × Addr)) (fp : List Addr), (C.blk (C.X.blk s H scope (compEnvC scope cl A C.X.env) fp)).X.env.scope = relS scope sc := fun s H A cl fp => by
          subst hs
          rfl
        have hpt : ∀ (s : Shared) (H : Hp) (A : Addr) (cl : List (Str × Addr)) (fp : List Addr), PTs (C.X.blk s H scope (compEnvC scope cl A C.X.env) fp) ifs (tG' C.X.K C.ca C.L (fun _ _ _ _ => False) RB fun ρ s => tst (ev CT cond ρ s)) := fun s H A cl fp => by
          split at h8
          · split at h8
            · refine ⟨fun pins s' σ' H' Q I q => pts_nil.run pins s' σ' H' Q I ?_⟩
              obtain ⟨ρ, m, s1, hR, hP⟩ := q
              exact hP m H' true .refl hR.sr rfl
            · cases h8
          · simp only [Bool.and_eq_true] at h8
            exact pts_one (ihc.st (C.blk (C.X.blk s H scope (compEnvC scope cl A C.X.env) fp)) (relS scope sc) _ (G.blk s H scope cl A fp) hN (hblk s H A cl fp) h8.2 (nif h8.1))
          · cases h8
        subst hN
        have base := pe_lc (pos := pos) (wi := tG C (RI C.X.K) (evi CT it)) (tt := tG' C.X.K C.ca C.L (fun _ _ _ _ => False) RB fun ρ s => tst (ev CT cond ρ s)) (g := tT C.X.K C.L tg) (te := tG' C.X.K C.ca C.L (fun _ _ _ _ => False) (RD C.X.K) (ev CT elt)) (elt := e) G.calm G.nd (ihi.si C sc tg' it' G rfl hs h1) (blkOk_by (own := own.filterMap fun i => (C.X.N[i]?).map fun n => (n, i)) (by rw [hs]; exact h2))
          (fun s H A cl fp => (tg_ok (N := C.X.N) tg).tg (C.blk (C.X.blk s H scope (compEnvC scope cl A C.X.env) fp)) false (relS scope sc) tg' G.calm G.nd rfl (hblk s H A cl fp) (fun z => nomatch z) h5)
          hpt (fun s H A cl fp => ihe.se (C.blk (C.X.blk s H scope (compEnvC scope cl A C.X.env) fp)) (relS scope sc) e (G.blk s H scope cl A fp) rfl (hblk s H A cl fp) h7) hset
        refine PE.imp base fun σ H Q hq => ?_
        refine lc_use (mm := true) (own := own.filterMap fun i => (C.X.N[i]?).map fun n => (n, i)) (fun i hi => ?_) ?_
        · rw [e3]
          exact List.contains_iff_mem.mp (List.all_eq_true.mp h4 i hi)
        · rw [e3]
          exact hq
      · cases h
  | wlk own f es ih =>
    refine chd_plain (fun _ _ => rfl) (fun _ _ => rfl) (fun _ _ _ => rfl) (fun sc x h => ?_) fun C sc x G hN hs h => ?_
    · cases x <;> first | rfl | exact (Bool.false_ne_true h).elim
    · simp only [chk] at h
      split at h
      · simp only [Bool.and_eq_true] at h
        obtain ⟨⟨⟨⟨⟨⟨⟨⟨h1, h2⟩, h3⟩, h4⟩, h5⟩, h6⟩, h7⟩, h8⟩, h9⟩ := h
        have e := of_decide_eq_true h1
        subst e
        have e := of_decide_eq_true h2
        subst e
        obtain ⟨i6, i7⟩ := ih.sa C sc _ G hN hs h7
        subst hN
        exact se_wlk (G.gn f h3) (glB_ok hs h4) (notDbg_ok h5).1 i7 i6 (blkOk_by (own := own.filterMap fun i => (C.X.N[i]?).map fun n => (n, i)) (by rw [hs]; exact h8)) (of_decide_eq_true h9) (notDbg_ok h6).1
      · cases h
  | lgn f es ih =>
    refine chd_plain (fun _ _ => rfl) (fun _ _ => rfl) (fun _ _ _ => rfl) (fun sc x h => ?_) fun C sc x G hN hs h => ?_
    · cases x <;> first | rfl | exact (Bool.false_ne_true h).elim
    · simp only [chk] at h
      split at h
      · simp only [Bool.and_eq_true] at h
        obtain ⟨⟨⟨⟨⟨⟨h1, h2⟩, h3⟩, h4⟩, h5⟩, h6⟩, h7⟩ := h
        have e := of_decide_eq_true h1
        subst e
        have e := of_decide_eq_true h3
        subst e
        obtain ⟨i6, i7⟩ := ih.sa C sc _ G hN hs h7
        exact se_lgn (G.gn f h4) (glB_ok hs h2) (G.blt _ (str_blt "list" (by decide +kernel))) (glB_ok hs h5) (notDbg_ok h6).1 i7 i6
      · cases h
  | srt a iha =>
    refine chd_plain (fun _ _ => rfl) (fun _ _ => rfl) (fun _ _ _ => rfl) (fun sc x h => ?_) fun C sc x G hN hs h => ?_
    · cases x <;> first | rfl | exact (Bool.false_ne_true h).elim
    · simp only [chk] at h
      split at h
      · simp only [Bool.and_eq_true] at h
        obtain ⟨⟨⟨⟨⟨h1, h2⟩, h3⟩, h4⟩, h5⟩, h7⟩ := h
        have e := of_decide_eq_true h1
        subst e
        have e := of_decide_eq_true h2
        subst e
        exact se_srt (glB_ok hs h3) (G.blt _ (str_blt "sorted" (by decide +kernel))) (glB_ok hs h4) (G.blt _ (str_blt "set" (by decide +kernel))) G.calm (nstar h5) (iha.se C sc _ G hN hs h7)
      · cases h
  | isl a iha =>
    refine chd_plain (fun _ _ => rfl) (fun _ _ => rfl) (fun _ _ _ => rfl) (fun sc x h => ?_) fun C sc x G hN hs h => ?_
    · cases x <;> first | rfl | exact (Bool.false_ne_true h).elim
    · simp only [chk] at h
      split at h
      · simp only [Bool.and_eq_true] at h
        obtain ⟨⟨⟨⟨⟨h1, h2⟩, h3⟩, h4⟩, h5⟩, h7⟩ := h
        have e := of_decide_eq_true h1
        subst e
        have e := of_decide_eq_true h2
        subst e
        exact se_isl (glB_ok hs h3) (G.blt _ (str_blt "isinstance" (by decide +kernel))) (nstar h5) (glB_ok hs h4) (G.blt _ (str_blt "list" (by decide +kernel))) (iha.se C sc _ G hN hs h7)
      · cases h
  | gf i y =>
    refine chd_plain (fun _ _ => rfl) (fun _ _ => rfl) (fun _ _ _ => rfl) (fun sc x h => ?_) fun C sc x G hN hs h => ?_
    · cases x <;> first | rfl | exact (Bool.false_ne_true h).elim
    · simp only [chk] at h
      split at h
      · simp only [Bool.and_eq_true] at h
        obtain ⟨⟨⟨h1, h2⟩, h3⟩, h4⟩ := h
        have e := of_decide_eq_true h1
        subst e
        have hm := List.contains_iff_mem.mp h2
        exact se_gf (glB_ok hs h3) (G.gf _ hm).2.2 hm (notDbg_ok h4).1
      · cases h
  | cav k es ih =>
    refine chd_plain (fun _ _ => rfl) (fun _ _ => rfl) (fun _ _ _ => rfl) (fun sc x h => ?_) fun C sc x G hN hs h => ?_
    · cases x <;> first | rfl | exact (Bool.false_ne_true h).elim
    · simp only [chk] at h
      split at h
      · simp only [Bool.and_eq_true] at h
        obtain ⟨⟨⟨h1, h2⟩, h3⟩, h4⟩ := h
        obtain ⟨q1, q2⟩ := ih.sa C sc _ G hN hs h4
        exact se_cav (T := T.nm) (has := T.has) G.tk (by rw [hN]; exact of_decide_eq_true h1) (visB_ok hs h2) (notDbg_ok h3).1 (notDbg_ok h3).2 G.gf G.fn q2 q1
      · cases h
  | fld k a iha =>
    refine chd_plain (fun _ _ => rfl) (fun _ _ => rfl) (fun _ _ _ => rfl) (fun sc x h => ?_) fun C sc x G hN hs h => ?_
    · cases x <;> first | rfl | exact (Bool.false_ne_true h).elim
    · simp only [chk] at h
      split at h
      · simp only [Bool.and_eq_true] at h
        obtain ⟨⟨⟨h1, h2⟩, h3⟩, h4⟩ := h
        have e := of_decide_eq_true h3
        subst e
        exact se_fld (G.pil h1) (List.contains_iff_mem.mp h2) rfl (iha.se C sc _ G hN hs h4)
      · cases h
  | mth f a es iha ihe =>
    refine chd_plain (fun _ _ => rfl) (fun _ _ => rfl) (fun _ _ _ => rfl) (fun sc x h => ?_) fun C sc x G hN hs h => ?_
    · cases x <;> first | rfl | exact (Bool.false_ne_true h).elim
    · simp only [chk] at h
      split at h
      · rename_i o p n apos xs q
        simp only [Bool.and_eq_true] at h
        obtain ⟨⟨⟨⟨⟨⟨h1, h2⟩, h3⟩, h4⟩, h5⟩, h6⟩, h7⟩ := h
        have FP := G.mem f 0 n (of_decide_eq_true h2)
        have h3 := ncont h3
        cases xs with
        | nil =>
          cases es with
          | nil => exact se_mth0 (G.pil h1) FP G.tk G.cw h3 rfl h4 (iha.se C sc _ G hN hs h6)
          | _ => exact (Bool.false_ne_true h7).elim
        | cons y xs =>
          obtain ⟨i6, i7⟩ := ihe.sa C sc _ G hN hs h7
          exact se_mth (G.pil h1) FP G.tk G.cw h3 rfl i7 (of_decide_eq_true h5) h4 (iha.se C sc _ G hN hs h6) i6
      · cases h
  | msp f a e iha ihe =>
    refine chd_plain (fun _ _ => rfl) (fun _ _ => rfl) (fun _ _ _ => rfl) (fun sc x h => ?_) fun C sc x G hN hs h => ?_
    · cases x <;> first | rfl | exact (Bool.false_ne_true h).elim
    · simp only [chk] at h
      split at h
      · simp only [Bool.and_eq_true] at h
        obtain ⟨⟨⟨⟨h1, h2⟩, h3⟩, h4⟩, h5⟩ := h
        exact se_msp (G.pil h1) (G.mem f 0 _ (of_decide_eq_true h2)) G.tk G.cw (ncont h3) rfl (iha.se C sc _ G hN hs h4) (ihe.se C sc _ G hN hs h5)
      · cases h
  | prp f a iha =>
    refine chd_plain (fun _ _ => rfl) (fun _ _ => rfl) (fun _ _ _ => rfl) (fun sc x h => ?_) fun C sc x G hN hs h => ?_
    · cases x <;> first | rfl | exact (Bool.false_ne_true h).elim
    · simp only [chk] at h
      split at h
      · simp only [Bool.and_eq_true] at h
        obtain ⟨⟨h1, h2⟩, h3⟩ := h
        exact se_prp (G.pil h1) (G.mem f 1 _ (of_decide_eq_true h2)) rfl (iha.se C sc _ G hN hs h3)
      · cases h
  | oln f a iha =>
    refine chd_plain (fun _ _ => rfl) (fun _ _ => rfl) (fun _ _ _ => rfl) (fun sc x h => ?_) fun C sc x G hN hs h => ?_
    · cases x <;> first | rfl | exact (Bool.false_ne_true h).elim
    · simp only [chk] at h
      split at h
      · simp only [Bool.and_eq_true] at h
        obtain ⟨⟨⟨⟨⟨h1, h2⟩, h3⟩, h4⟩, h5⟩, h6⟩ := h
        have e := of_decide_eq_true h1
        subst e
        exact se_oln (G.pil h2) (G.mem f 0 _ (of_decide_eq_true h3)) (glB_ok hs h4) (G.blt _ (str_blt "len" (by decide +kernel))) (nstar h5) (iha.se C sc _ G hN hs h6)
      · cases h
  | con0 f c a ihc iha =>
    refine chd_plain (fun _ _ => rfl) (fun _ _ => rfl) (fun _ _ _ => rfl) (fun sc x h => ?_) fun C sc x G hN hs h => ?_
    · cases x <;> first | rfl | exact (Bool.false_ne_true h).elim
    · simp only [chk] at h
      split at h
      · simp only [Bool.and_eq_true] at h
        obtain ⟨⟨⟨⟨⟨h1, h2⟩, h3⟩, h4⟩, h5⟩, h6⟩ := h
        exact se_con0 (G.mem f 3 _ (of_decide_eq_true h2)) G.tk G.cw (cle_ok (G.pil h1) hN hs h3 h4) (notDbg_ok h4).1 (nstar h5) (iha.se C sc _ G hN hs h6)
      · cases h
  | con1 f c a b ihc iha ihb =>
    refine chd_plain (fun _ _ => rfl) (fun _ _ => rfl) (fun _ _ _ => rfl) (fun sc x h => ?_) fun C sc x G hN hs h => ?_
    · cases x <;> first | rfl | exact (Bool.false_ne_true h).elim
    · simp only [chk] at h
      split at h
      · simp only [Bool.and_eq_true] at h
        obtain ⟨⟨⟨⟨⟨⟨⟨h1, h2⟩, h0⟩, h3⟩, h4⟩, h5⟩, h6⟩, h7⟩ := h
        have e := of_decide_eq_true h0
        subst e
        exact se_con1 (G.mem f 4 _ (of_decide_eq_true h2)) G.tk G.cw (cle_ok (G.pil h1) hN hs h3 h4) (notDbg_ok h4).1 (nstar h5) (iha.se C sc _ G hN hs h6) (ihb.se C sc _ G hN hs h7)
      · cases h
  | cmt f es ih =>
    refine chd_plain (fun _ _ => rfl) (fun _ _ => rfl) (fun _ _ _ => rfl) (fun sc x h => ?_) fun C sc x G hN hs h => ?_
    · cases x <;> first | rfl | exact (Bool.false_ne_true h).elim
    · simp only [chk] at h
      split at h
      · simp only [Bool.and_eq_true] at h
        obtain ⟨⟨⟨⟨⟨⟨h1, h2⟩, h3⟩, h4⟩, h5⟩, h6⟩, h7⟩ := h
        have e := of_decide_eq_true h1
        subst e
        obtain ⟨i6, i7⟩ := ih.sa C sc _ G hN hs h7
        exact se_cmt (G.pil h3) (G.mem f 2 _ (of_decide_eq_true h4)) G.tk G.cw (glB_ok hs h2) i7 (of_decide_eq_true h6) h5 i6
      · cases h
  | ccn k f =>
    refine chd_plain (fun _ _ => rfl) (fun _ _ => rfl) (fun _ _ _ => rfl) (fun sc x h => ?_) fun C sc x G hN hs h => ?_
    · cases x <;> first | rfl | exact (Bool.false_ne_true h).elim
    · simp only [chk] at h
      split at h
      · simp only [Bool.and_eq_true] at h
        obtain ⟨⟨⟨h1, h2⟩, h3⟩, h4⟩ := h
        have e := of_decide_eq_true h1
        subst e
        obtain ⟨d, v, u, g1, g2, g3⟩ := G.cc f _ (of_decide_eq_true h4)
        exact se_ccn (G.pil h3) g1 g2 (glB_ok hs h2) g3
      · cases h
  | oeq ng f a b iha ihb => exact chd_plain (fun _ _ => rfl) (fun _ _ => rfl) (fun _ _ _ => rfl) (fun sc x h => (Bool.false_ne_true h).elim) fun C sc x G hN hs h => (Bool.false_ne_true h).elim
  | isp a iha => exact chd_plain (fun _ _ => rfl) (fun _ _ => rfl) (fun _ _ _ => rfl) (fun sc x h => (Bool.false_ne_true h).elim) fun C sc x G hN hs h => (Bool.false_ne_true h).elim
  | it a iha =>
    refine ⟨fun C sc x G hN hs h => (Bool.false_ne_true h).elim, fun C sc x G hN hs h => (Bool.false_ne_true h).elim, fun C sc op vs pos G hN hs h => (Bool.false_ne_true h).elim, fun C sc xs G hN hs h => (Bool.false_ne_true h).elim, fun C sc x G hN hs h => (Bool.false_ne_true h).elim, fun C sc tg x G hN hs h => ?_⟩
    exact si_it (iha.se C sc x G hN hs h)
  | rng1 a iha =>
    refine ⟨fun C sc x G hN hs h => (Bool.false_ne_true h).elim, fun C sc x G hN hs h => (Bool.false_ne_true h).elim, fun C sc op vs pos G hN hs h => (Bool.false_ne_true h).elim, fun C sc xs G hN hs h => (Bool.false_ne_true h).elim, fun C sc x G hN hs h => (Bool.false_ne_true h).elim, fun C sc tg x G hN hs h => ?_⟩
    simp only [chki] at h
    split at h
    · simp only [Bool.and_eq_true] at h
      obtain ⟨⟨⟨h1, h2⟩, h3⟩, h4⟩ := h
      have e := of_decide_eq_true h1
      subst e
      exact si_rng1 (glB_ok hs h2) (G.blt _ (str_blt "range" (by decide +kernel))) (nstar h3) (iha.se C sc _ G hN hs h4)
    · cases h
  | rng2 a b iha ihb =>
    refine ⟨fun C sc x G hN hs h => (Bool.false_ne_true h).elim, fun C sc x G hN hs h => (Bool.false_ne_true h).elim, fun C sc op vs pos G hN hs h => (Bool.false_ne_true h).elim, fun C sc xs G hN hs h => (Bool.false_ne_true h).elim, fun C sc x G hN hs h => (Bool.false_ne_true h).elim, fun C sc tg x G hN hs h => ?_⟩
    simp only [chki] at h
    split at h
    · simp only [Bool.and_eq_true] at h
      obtain ⟨⟨⟨⟨⟨h1, h2⟩, h3⟩, h4⟩, h5⟩, h6⟩ := h
      have e := of_decide_eq_true h1
      subst e
      exact si_rng2 (glB_ok hs h2) (G.blt _ (str_blt "range" (by decide +kernel))) (nstar h3) (nstar h4) (iha.se C sc _ G hN hs h5) (ihb.se C sc _ G hN hs h6)
    · cases h
  | rng3 a b c iha ihb ihc =>
    refine ⟨fun C sc x G hN hs h => (Bool.false_ne_true h).elim, fun C sc x G hN hs h => (Bool.false_ne_true h).elim, fun C sc op vs pos G hN hs h => (Bool.false_ne_true h).elim, fun C sc xs G hN hs h => (Bool.false_ne_true h).elim, fun C sc x G hN hs h => (Bool.false_ne_true h).elim, fun C sc tg x G hN hs h => ?_⟩
    simp only [chki] at h
    split at h
    · simp only [Bool.and_eq_true] at h
      obtain ⟨⟨⟨⟨⟨⟨⟨h1, h2⟩, h3⟩, h4⟩, h5⟩, h6⟩, h7⟩, h8⟩ := h
      have e := of_decide_eq_true h1
      subst e
      exact si_rng3 (glB_ok hs h2) (G.blt _ (str_blt "range" (by decide +kernel))) (nstar h3) (nstar h4) (nstar h5) (iha.se C sc _ G hN hs h6) (ihb.se C sc _ G hN hs h7) (ihc.se C sc _ G hN hs h8)
    · cases h
  | enum a iha =>
    refine ⟨fun C sc x G hN hs h => (Bool.false_ne_true h).elim, fun C sc x G hN hs h => (Bool.false_ne_true h).elim, fun C sc op vs pos G hN hs h => (Bool.false_ne_true h).elim, fun C sc xs G hN hs h => (Bool.false_ne_true h).elim, fun C sc x G hN hs h => (Bool.false_ne_true h).elim, fun C sc tg x G hN hs h => ?_⟩
    simp only [chki] at h
    split at h
    · simp only [Bool.and_eq_true] at h
      obtain ⟨⟨⟨⟨h1, h2⟩, h3⟩, h4⟩, h5⟩ := h
      have e := of_decide_eq_true h1
      subst e
      cases tg with
      | Tuple xs k p => exact si_enum (glB_ok hs h3) (G.blt _ (str_blt "enumerate" (by decide +kernel))) (nstar h4) (iha.se C sc _ G hN hs h5)
      | _ => cases h2
    · cases h
  | zip a b iha ihb =>
    refine ⟨fun C sc x G hN hs h => (Bool.false_ne_true h).elim, fun C sc x G hN hs h => (Bool.false_ne_true h).elim, fun C sc op vs pos G hN hs h => (Bool.false_ne_true h).elim, fun C sc xs G hN hs h => (Bool.false_ne_true h).elim, fun C sc x G hN hs h => (Bool.false_ne_true h).elim, fun C sc tg x G hN hs h => ?_⟩
    simp only [chki] at h
    split at h
    · simp only [Bool.and_eq_true] at h
      obtain ⟨⟨⟨⟨⟨⟨h1, h2⟩, h3⟩, h4⟩, h5⟩, h6⟩, h7⟩ := h
      have e := of_decide_eq_true h1
      subst e
      cases tg with
      | Tuple xs k p => exact si_zip (glB_ok hs h3) (G.blt _ (str_blt "zip" (by decide +kernel))) (nstar h4) (nstar h5) (iha.se C sc _ G hN hs h6) (ihb.se C sc _ G hN hs h7)
      | _ => cases h2
    · cases h
  | itl a iha => exact chd_none (fun _ _ => rfl) (fun _ _ => rfl) (fun _ _ => rfl) (fun _ _ _ => rfl)
  | tnm i => exact chd_none (fun _ _ => rfl) (fun _ _ => rfl) (fun _ _ => rfl) (fun _ _ _ => rfl)
  | ttp es ih => exact chd_none (fun _ _ => rfl) (fun _ _ => rfl) (fun _ _ => rfl) (fun _ _ _ => rfl)
  | ps a iha =>
    refine ⟨fun C sc x G hN hs h => (Bool.false_ne_true h).elim, fun C sc x G hN hs h => (Bool.false_ne_true h).elim, fun C sc op vs pos G hN hs h => (Bool.false_ne_true h).elim, fun C sc xs G hN hs h => (Bool.false_ne_true h).elim, fun C sc x G hN hs h => ?_, fun C sc tg xs G hN hs h => (Bool.false_ne_true h).elim⟩
    cases x with
    | none => exact (Bool.false_ne_true h).elim
    | some e => exact so_some (iha.se C sc e G hN hs h)
end
end EV

set_option maxHeartbeats 1000000
/-! statements, one rule a construct -/
namespace EV
open PySem PySem.Spec PyProof.Rows L2

/-- what holds of a statement's outcome -/
def PSO (K : PySem.W.Frag) (ca : Nat → Addr) (L : Nat) (W : WX) (m : Pl) (s : Sto) (H : Hp) (o : Option SO) (D' : Ends) : Prop :=
  match o with
  | some (.nx ρ s') => ∀ σ' m' H', Step L m s H m' s' H' → Rel' K L m' s' H' ρ σ' → D'.nx σ' H'
  | some (.ret d s') => ∀ m' H' v, Step L m s H m' s' H' → SRel K m' s' H' → RD K m' H' d v → D'.rt v H'
  | some (.exc k ρ s') => ∀ σ' m' H', Step L m s H m' s' H' → Rel' K L m' s' H' ρ σ' → W (.ref (ca k)) none σ' H'
  | none => False
def tS (C : Ct) (c : Env → Sto → Option SO) : TS := fun D' σ H => ∃ ρ m s, Rel C m s H ρ σ ∧ PSO C.X.K C.ca C.L C.W m s H (c ρ s) D'
abbrev SS (C : Ct) (x : Stmt) (c : Env → Sto → Option SO) : Prop := PS C.X x (tS C c)
abbrev SSs (C : Ct) (x : List Stmt) (c : Env → Sto → Option SO) : Prop := PSs C.X x (tS C c)
section
variable {C : Ct} {m m1 m2 : Pl} {H H1 H2 : Hp} {s s1 s2 : Sto} {ρ : Env} {σ : L2.St} {K : PySem.W.Frag} {L : Nat} {D' : Ends}
variable {a b c x y z tg : Expr} {ca cb cc : Env → Sto → Option (Out D)} {pos p : Pos} {es : List Expr} {cs : Env → Sto → Option (Out (List D))} {CT : CTb}
theorem PSO.step {o : Option SO} (t : Step C.L m s H m1 s1 H1) (h : PSO C.X.K C.ca C.L C.W m s H o D') : PSO C.X.K C.ca C.L C.W m1 s1 H1 o D' := by
  match o, h with
  | some (.nx ρ s'), h => exact fun σ' m' H' h1 h2 => h σ' m' H' (t.trans h1) h2
  | some (.ret d s'), h => exact fun m' H' v h1 h2 h3 => h m' H' v (t.trans h1) h2 h3
  | some (.exc k ρ s'), h => exact fun σ' m' H' h1 h2 => h σ' m' H' (t.trans h1) h2
  | none, h => exact h.elim
/-- an evaluation within a statement -/
theorem PSO.sbd {α β : Type} {R : Pl → Hp → α → β → Prop} {o : Option (Out α)} {f : α → Sto → Option SO} (r : Rel C m s H ρ σ) (h : PSO C.X.K C.ca C.L C.W m s H (sbd ρ o f) D') :
    P C R σ m s H o fun b H1 => ∃ a m1 s1, Step C.L m s H m1 s1 H1 ∧ SRel C.X.K m1 s1 H1 ∧ R m1 H1 a b ∧ Rel C m1 s1 H1 ρ σ ∧ PSO C.X.K C.ca C.L C.W m1 s1 H1 (f a s1) D' := by
  match o, h with
  | some (.ok a s'), h => exact fun m' H' b h1 h2 h3 => ⟨a, m', s', h1, h2, h3, r.step h1 h2, PSO.step h1 h⟩
  | some (.exc k s'), h => exact fun m' H' h1 h2 => h σ m' H' h1 (r.step h1 h2)
  | none, h => exact h.elim
theorem PSO.nx {ρ' : Env} {s' : Sto} (h : PSO C.X.K C.ca C.L C.W m s H (some (.nx ρ' s')) D') {σ' : L2.St} {m' : Pl} {H' : Hp} (t : Step C.L m s H m' s' H') (r : Rel C m' s' H' ρ' σ') : D'.nx σ' H' := h σ' m' H' t r

theorem ss_nil : SSs C [] (fun ρ s => some (.nx ρ s)) := PSs.imp pss_nil fun D' σ H ⟨ρ, m, s, hR, hP⟩ => hP σ m H .refl hR
theorem ss_cons {st : Stmt} {rest : List Stmt} {c1 c2 : Env → Sto → Option SO} (h1 : SS C st c1) (h2 : SSs C rest c2) : SSs C (st :: rest) (fun ρ s => match c1 ρ s with
    | some (.nx ρ1 s1) => c2 ρ1 s1
    | r => r) := by
  refine PSs.imp (pss_cons h1 h2) fun D' σ H ⟨ρ, m, s, hR, hP⟩ => ?_
  refine ⟨ρ, m, s, hR, ?_⟩
  dsimp only at hP
  match e : c1 ρ s with
  | some (.nx ρ1 s1) =>
    rw [e] at hP
    exact fun σ' m' H' t r => ⟨ρ1, m', s1, r, PSO.step t hP⟩
  | some (.ret d s') =>
    rw [e] at hP
    exact hP
  | some (.exc k ρ s') =>
    rw [e] at hP
    exact hP
  | none =>
    rw [e] at hP
    exact hP.elim
theorem ss_ret (ha : SE C a ca) : SS C (.Return (some a) pos) (fun ρ s => sbd ρ (ca ρ s) fun x s1 => some (.ret x s1)) := by
  refine PS.imp (ps_ret ha) fun D' σ H ⟨ρ, m, s, hR, hP⟩ => ?_
  refine ⟨ρ, m, s, hR, (PSO.sbd (R := RD C.X.K) hR hP).mono fun v H1 ⟨x, m1, s1, t1, S1, rx, hR1, q⟩ => ?_⟩
  exact q m1 H1 v .refl S1 rx
theorem ss_retN : SS C (.Return none pos) (fun ρ s => some (.ret .non s)) := by
  refine PS.imp ps_retN fun D' σ H ⟨ρ, m, s, hR, hP⟩ => ?_
  exact hP m H .non .refl hR.sr rfl
theorem ss_expr (hs : swapsWith a none pos.line C.X.env = pure false) (ha : SE C a ca) : SS C (.Expr a pos) (fun ρ s => sbd ρ (ca ρ s) fun _ s1 => some (.nx ρ s1)) := by
  refine PS.imp (ps_expr ha hs) fun D' σ H ⟨ρ, m, s, hR, hP⟩ => ?_
  refine ⟨ρ, m, s, hR, (PSO.sbd (R := RD C.X.K) hR hP).mono fun v H1 ⟨x, m1, s1, t1, S1, rx, hR1, q⟩ => ?_⟩
  exact q σ m1 H1 .refl hR1
theorem ss_if {t f : List Stmt} {ct cf : Env → Sto → Option SO} (ha : ST C a ca) (ht : SSs C t ct) (hf : SSs C f cf) : SS C (.If a t f pos) (fun ρ s => sbd ρ (ca ρ s) fun x s1 => match x with
    | .bl true => ct ρ s1
    | .bl false => cf ρ s1
    | _ => none) := by
  refine PS.imp (ps_if ha ht hf) fun D' σ H ⟨ρ, m, s, hR, hP⟩ => ?_
  have e : (sbd ρ (ca ρ s) fun x s1 => match x with
    | .bl true => ct ρ s1
    | .bl false => cf ρ s1
    | _ => none) = sbd ρ (tst (ca ρ s)) fun b s1 => if b = true then ct ρ s1 else cf ρ s1 := by
    match ca ρ s with
    | none => rfl
    | some (.exc k s) => rfl
    | some (.ok d s) =>
      cases d with
      | bl b => cases b <;> rfl
      | _ => rfl
  dsimp only at hP
  rw [e] at hP
  refine ⟨ρ, m, s, hR, (PSO.sbd (R := RB) hR hP).mono fun v H1 ⟨x, m1, s1, t1, S1, rx, hR1, q⟩ => ?_⟩
  have rx : x = v := rx
  subst rx
  cases x with
  | true =>
    rw [if_pos rfl] at q ⊢
    exact ⟨ρ, m1, s1, hR1, q⟩
  | false =>
    rw [if_neg Bool.false_ne_true] at q ⊢
    exact ⟨ρ, m1, s1, hR1, q⟩
/-- name = value, by whatever rule -/
theorem ss_set {i : Nat} {st : Stmt} (h : PS C.X st (tAsg (tG C (RD C.X.K) ca) (gName i))) : SS C st (fun ρ s => sbd ρ (ca ρ s) fun x s1 => some (.nx (ρ.set i (some x)) s1)) := by
  refine PS.imp h fun D' σ H ⟨ρ, m, s, hR, hP⟩ => ?_
  refine ⟨ρ, m, s, hR, (PSO.sbd (R := RD C.X.K) hR hP).mono fun v H1 ⟨x, m1, s1, t1, S1, rx, hR1, q⟩ => ?_⟩
  exact q _ m1 H1 .refl (Rel'.set (C := C) hR1 i rx)
/-- target = value -/
theorem ss_unp {t : E} (hg : PG C.X tg (tT C.X.K C.L t)) (ha : SE C a ca) (hs : swapsWithSole [tg] a pos.line C.X.env = pure false) (hw : swappedStores [tg] a C.X.env = pure none) (h1 : (assignEach [tg] C.X.env).map (·.2) = [assign tg C.X.env]) :
    SS C (.Assign [tg] a pos) (fun ρ s => sbd ρ (ca ρ s) fun x s1 => match bindT t x ρ with
    | some ρ1 => some (.nx ρ1 s1)
    | none => none) := by
  refine PS.imp (ps_asg ha hg hs hw h1) fun D' σ H ⟨ρ, m, s, hR, hP⟩ => ?_
  refine ⟨ρ, m, s, hR, (PSO.sbd (R := RD C.X.K) hR hP).mono fun v H1 ⟨x, m1, s1, t1, S1, rx, hR1, q⟩ => ?_⟩
  split at q
  · rename_i ρ1 e
    exact ⟨ρ, m1, s1, x, ρ1, hR1, rx, e, fun σ' hR' _ => q σ' m1 H1 .refl hR'⟩
  · exact (show False from q).elim
/-- a, b = x, y with the stores exchanged -/
theorem ss_par2 {i j : Nat} {st : Stmt} (h : PS C.X st (tPar i j (tG C (RDs C.X.K) cs))) : SS C st (fun ρ s => sbd ρ (cs ρ s) fun xs s1 => match setMany [i, j] xs ρ with
    | some ρ1 => some (.nx ρ1 s1)
    | none => none) := by
  refine PS.imp h fun D' σ H ⟨ρ, m, s, hR, hP⟩ => ?_
  refine ⟨ρ, m, s, hR, (PSO.sbd (R := RDs C.X.K) hR hP).mono fun vs H1 ⟨xs, m1, s1, t1, S1, rx, hR1, q⟩ => ?_⟩
  split at q
  · rename_i ρ1 e
    match xs, e, rx with
    | [u, v], e, rx =>
      cases e
      obtain ⟨v1, v2, e1, r1, r2⟩ := rx.two
      exact ⟨v1, v2, e1, q _ m1 H1 .refl (Rel'.set (C := C) (Rel'.set (C := C) hR1 i r1) j r2)⟩
  · exact (show False from q).elim
theorem ss_par3 {i j k : Nat} {st : Stmt} (h : PS C.X st (tPar3 i j k (tG C (RDs C.X.K) cs))) : SS C st (fun ρ s => sbd ρ (cs ρ s) fun xs s1 => match setMany [i, j, k] xs ρ with
    | some ρ1 => some (.nx ρ1 s1)
    | none => none) := by
  refine PS.imp h fun D' σ H ⟨ρ, m, s, hR, hP⟩ => ?_
  refine ⟨ρ, m, s, hR, (PSO.sbd (R := RDs C.X.K) hR hP).mono fun vs H1 ⟨xs, m1, s1, t1, S1, rx, hR1, q⟩ => ?_⟩
  split at q
  · rename_i ρ1 e
    match xs, e, rx with
    | [u, v, w], e, rx =>
      cases e
      obtain ⟨v1, r, e1, r1, r23⟩ := rx
      obtain ⟨v2, v3, e2, r2, r3⟩ := r23.two
      subst e2
      exact ⟨v1, v2, v3, e1, q _ m1 H1 .refl (Rel'.set (C := C) (Rel'.set (C := C) (Rel'.set (C := C) hR1 i r1) j r2) k r3)⟩
  · exact (show False from q).elim

/-! ### the store is written -/
theorem Mv.write {n : Nat} {l : Addr} {o o' : HO} (hn : m.a[n]? = some l) (hl : H l = some o') (ho : Mut o') : Mv m H m (upd H l o) := by
  have hm : l ∈ m.a := List.mem_of_getElem? hn
  refine ⟨fun _ _ e => e, fun a vs e n => ⟨?_, n⟩, fun a u e k1 k2 _ => ?_⟩
  · rw [upd_ne (fun z => n (.inl (by rw [z]; exact hm)))]
    exact e
  · refine (upd_ne (fun z => ?_)).trans e
    rw [z, hl] at e
    cases e
    rcases ho with ⟨_, q⟩ | ⟨_, q⟩ | ⟨_, _, _, q⟩
    · exact k1 _ q
    · exact k2.1 _ q
    · exact k2.2 _ _ _ q
theorem Step.write {n : Nat} {l : Addr} {o o' : HO} {cc c0 : Cell} {d : D} (hn : m.a[n]? = some l) (hl : H l = some o') (ho : Mut o') (h0 : s[n]? = some c0) (hw : L ≤ n ∨ noloc d = true)
    (hc : ∀ e ∈ cc.data, e ∈ c0.data ∨ e = d) : Step L m s H m (s.set n cc) (upd H l o) := by
  have hm : l ∈ m.a := List.mem_of_getElem? hn
  refine ⟨⟨⟨[], by simp⟩, rfl, fun a u e na _ => ⟨?_, na⟩, (Mv.write (o := o) hn hl ho).hold⟩, by rw [List.length_set]; exact Nat.le_refl _, fun k hk c' h => ?_⟩
  · rw [upd_ne (fun z => na (by rw [z]; exact hm))]
    exact e
  · by_cases e : n = k
    · subst e
      rw [List.getElem?_set_self (List.getElem?_eq_some_iff.mp h0).1] at h
      cases h
      refine ⟨c0, h0, fun e he => ?_⟩
      rcases hc e he with q | q
      · exact .inr q
      · rcases hw with w | w
        · omega
        · exact .inl (by rw [q]; exact w)
    · rw [List.getElem?_set_ne e] at h
      exact ⟨c', h, fun e he => .inr he⟩
theorem SRel.write {n : Nat} {l : Addr} {o o' : HO} {cc : Cell} (S : SRel K m s H) (hn : m.a[n]? = some l) (hl : H l = some o') (ho : Mut o')
    (hc : CellR K m (upd H l o) l cc) : SRel K m (s.set n cc) (upd H l o) := by
  have hm : l ∈ m.a := List.mem_of_getElem? hn
  have hnl : n < s.length := by rw [← S.len]; exact (List.getElem?_eq_some_iff.mp hn).1
  refine ⟨by rw [List.length_set]; exact S.len, S.nd, fun k c' h => ?_, fun z hz => ?_, S.tab.writeK hl ho⟩
  · by_cases e : n = k
    · subst e
      rw [List.getElem?_set_self hnl] at h
      cases h
      exact ⟨l, hn, hc⟩
    · rw [List.getElem?_set_ne e] at h
      obtain ⟨b, h1, h2⟩ := S.cell k c' h
      refine ⟨b, h1, h2.mv (Mv.write hn hl ho) (upd_ne fun z => ?_)⟩
      subst z
      exact e (nd_ix S.nd hn h1)
  · obtain ⟨h1, u, h2⟩ := S.hid z hz
    exact ⟨h1, u, by rw [upd_ne (fun q => h1 (by rw [q]; exact hm))]; exact h2⟩
theorem wr_some {n : Nat} {cc : Cell} {d : D} {s' : Sto} (h : wr L n cc d s = some s') : (L ≤ n ∨ noloc d = true) ∧ s' = s.set n cc := by
  unfold wr at h
  split at h
  · rename_i hw
    cases h
    exact ⟨hw, rfl⟩
  · cases h
/-- x.append(d) -/
theorem app_use {x d : D} {v u : V} {s' : Sto} (S : SRel K m s H) (rx : RD K m H x v) (rd : RD K m H d u) (e : appD L x d s = some s') :
    ∃ l vs, v = .ref l ∧ H l = some (.lst vs) ∧ vs.length < sizeLine ∧ Step L m s H m s' (upd H l (.lst (vs ++ [u]))) ∧ SRel K m s' (upd H l (.lst (vs ++ [u]))) := by
  cases x with
  | loc n =>
    obtain ⟨l, e1, hl⟩ := rx
    obtain ⟨c0, hc, rc⟩ := S.at hl
    have e : (match s[n]? with
      | some (.lst xs) => if xs.length < sizeLine then wr L n (.lst (xs ++ [d])) d s else none
      | _ => none) = some s' := e
    rw [hc] at e
    cases c0 with
    | lst xs =>
      obtain ⟨vs, h1, h2⟩ := rc
      have e : (if xs.length < sizeLine then wr L n (.lst (xs ++ [d])) d s else none) = some s' := e
      split at e
      · rename_i hz
        obtain ⟨hw, e2⟩ := wr_some e
        subst e2
        refine ⟨l, vs, e1, h1, by rw [← h2.length]; exact hz, Step.write hl h1 (.inl ⟨_, rfl⟩) hc hw fun q hq => ?_, S.write hl h1 (.inl ⟨_, rfl⟩) ⟨_, upd_same, ?_⟩⟩
        · rcases List.mem_append.mp hq with q' | q'
          · exact .inl q'
          · exact .inr (List.mem_singleton.mp q')
        · exact RDs.mv (Mv.write hl h1 (.inl ⟨_, rfl⟩)) _ _ (h2.append ⟨u, [], rfl, rd, rfl⟩)
      · cases e
    | dct kvs => cases e
    | ins fs => cases e
  | _ => cases e
theorem RKs.length : ∀ {ds : List (Key × D)} {vs : List (Key × V)}, RKs K m H ds vs → ds.length = vs.length
  | [], vs, h => by
    rw [show vs = [] from h]
    rfl
  | (k, x) :: xs, vs, h => by
    obtain ⟨v, r, rfl, h1, h2⟩ := h
    simp only [List.length_cons, RKs.length h2]
theorem RKs.any (k : Key) : ∀ {ds : List (Key × D)} {vs : List (Key × V)}, RKs K m H ds vs → (ds.any fun kv => decide (kv.1 = k)) = vs.any fun kv => decide (kv.1 = k)
  | [], vs, h => by
    rw [show vs = [] from h]
    rfl
  | (j, x) :: xs, vs, h => by
    obtain ⟨v, r, rfl, h1, h2⟩ := h
    rw [List.any_cons, List.any_cons, RKs.any k h2]
theorem RKs.map (k : Key) {d : D} {u : V} (rd : RD K m H d u) : ∀ {ds : List (Key × D)} {vs : List (Key × V)}, RKs K m H ds vs → RKs K m H (ds.map fun kv => if kv.1 = k then (kv.1, d) else kv) (vs.map fun kv => if kv.1 = k then (kv.1, u) else kv)
  | [], vs, h => by
    rw [show vs = [] from h]
    exact (rfl : ([] : List (Key × V)) = [])
  | (j, x) :: xs, vs, h => by
    obtain ⟨v, r, rfl, h1, h2⟩ := h
    have ih := RKs.map k rd h2
    by_cases e : j = k
    · rw [List.map_cons, List.map_cons, if_pos e, if_pos e]
      exact ⟨u, _, rfl, rd, ih⟩
    · rw [List.map_cons, List.map_cons, if_neg e, if_neg e]
      exact ⟨v, _, rfl, h1, ih⟩
theorem RKs.snoc (k : Key) {d : D} {u : V} (rd : RD K m H d u) : ∀ {ds : List (Key × D)} {vs : List (Key × V)}, RKs K m H ds vs → RKs K m H (ds ++ [(k, d)]) (vs ++ [(k, u)])
  | [], vs, h => by
    rw [show vs = [] from h]
    exact ⟨u, [], rfl, rd, rfl⟩
  | (j, x) :: xs, vs, h => by
    obtain ⟨v, r, rfl, h1, h2⟩ := h
    exact ⟨v, _, rfl, h1, RKs.snoc k rd h2⟩
theorem RKs.put (k : Key) {d : D} {u : V} (rd : RD K m H d u) {ds : List (Key × D)} {vs : List (Key × V)} (h : RKs K m H ds vs) : RKs K m H (setK ds k d) (putK vs k u) := by
  unfold setK putK
  rw [RKs.any k h]
  split
  · exact RKs.map k rd h
  · exact RKs.snoc k rd h
theorem data_setK {ds : List (Key × D)} {k : Key} {d e : D} (h : e ∈ (Cell.dct (setK ds k d)).data) : e ∈ (Cell.dct ds).data ∨ e = d := by
  have h : e ∈ (setK ds k d).map (·.2) := h
  show e ∈ ds.map (·.2) ∨ e = d
  unfold setK at h
  obtain ⟨q, hq, rfl⟩ := List.mem_map.mp h
  split at hq
  · obtain ⟨r, hr, e2⟩ := List.mem_map.mp hq
    by_cases e3 : r.1 = k
    · rw [if_pos e3] at e2
      subst e2
      exact .inr rfl
    · rw [if_neg e3] at e2
      subst e2
      exact .inl (List.mem_map_of_mem hr)
  · rcases List.mem_append.mp hq with hq | hq
    · exact .inl (List.mem_map_of_mem hq)
    · rw [List.mem_singleton.mp hq]
      exact .inr rfl
/-- x[k] = d -/
def rSetAll : TSet := fun o i v H Q => rSetL o i v H Q ∨ ∃ a H', o = .ref a ∧ DPut H a i v H' ∧ Q H'
theorem set_all {X : Cx} (hu : X.A.units + 1 < cLine) : PSet X rSetAll := by
  intro pins s σ H o i v ov iv u Q I ro ri rv h
  rcases h with h | ⟨a, H', e, g, q⟩
  · exact set_list pins s σ H o i v ov iv u Q I ro ri rv h
  · subst e
    obtain rfl : ov = Value.ref a := ro
    exact d_setItem hu I g ri rv fun s' I' => ⟨H', I', q⟩
theorem sto_use {x i d : D} {v iv u : V} {s' : Sto} {Q : Hp → Prop} (S : SRel K m s H) (rx : RD K m H x v) (ri : RD K m H i iv) (rd : RD K m H d u) (e : stoD L x i d s = some s')
    (q : ∀ H', Step L m s H m s' H' → SRel K m s' H' → Q H') : rSetAll v iv u H Q := by
  cases x with
  | loc n =>
    obtain ⟨l, e1, hl⟩ := rx
    obtain ⟨c0, hc, rc⟩ := S.at hl
    simp only [stoD, hc] at e
    cases c0 with
    | lst xs =>
      obtain ⟨vs, h1, h2⟩ := rc
      cases i with
      | int k =>
        simp only at e
        split at e
        · rename_i j hj
          obtain ⟨hw, e2⟩ := wr_some e
          subst e2
          refine .inl ⟨l, vs, k, j, e1, ri, h1, by rw [← h2.length]; exact hj, q _ (Step.write hl h1 (.inl ⟨_, rfl⟩) hc hw fun z hz => ?_) (S.write hl h1 (.inl ⟨_, rfl⟩) ⟨_, upd_same, ?_⟩)⟩
          · rcases List.mem_or_eq_of_mem_set hz with z' | z'
            · exact .inl z'
            · exact .inr z'
          · exact RDs.mv (Mv.write hl h1 (.inl ⟨_, rfl⟩)) _ _ (h2.set j rd)
        · cases e
      | _ => cases e
    | dct kvs =>
      obtain ⟨vs, h1, h2⟩ := rc
      simp only at e
      split at e
      · rename_i k hk
        split at e
        · rename_i hz
          obtain ⟨hw, e2⟩ := wr_some e
          subst e2
          refine .inr ⟨l, _, e1, by rw [key_rel hk ri]; exact DPut.k h1 (by rw [← h2.length]; exact hz), q _ (Step.write hl h1 (.inr (.inl ⟨_, rfl⟩)) hc hw fun z hz => data_setK hz) (S.write hl h1 (.inr (.inl ⟨_, rfl⟩)) ⟨_, upd_same, ?_⟩)⟩
          exact RKs.mv (Mv.write hl h1 (.inr (.inl ⟨_, rfl⟩))) _ _ (h2.put k rd)
        · cases e
      · cases e
    | ins fs => cases e
  | _ => cases e
theorem isLst_val {x : D} {v : V} (S : SRel K m s H) (rx : RD K m H x v) (e : isLst s x = true) : ∃ l vs, v = .ref l ∧ H l = some (.lst vs) := by
  cases x with
  | loc n =>
    obtain ⟨l, e1, hl⟩ := rx
    obtain ⟨c0, hc, rc⟩ := S.at hl
    simp only [isLst, hc] at e
    cases c0 with
    | lst xs =>
      obtain ⟨vs, h1, h2⟩ := rc
      exact ⟨l, vs, e1, h1⟩
    | dct kvs => cases e
    | ins fs => cases e
  | _ => cases e
theorem ss_app {q apos : Pos} (hs : swapsWith (.Call (.Attribute a "append" apos) [b] [] q) none pos.line C.X.env = pure false) (hst : isStar b = false) (hbase : attributeBase a "append" C.X.env (eval a C.X.env) = eval a C.X.env) (hline : (apos.endLine == q.line) = true)
    (ha : SE C a ca) (hb : SE C b cb) : SS C (.Expr (.Call (.Attribute a "append" apos) [b] [] q) pos) (fun ρ s => sbd ρ (ca ρ s) fun x s1 => if isLst s1 x = true then sbd ρ (cb ρ s1) fun y s2 => match appD C.L x y s2 with
    | some s3 => some (.nx ρ s3)
    | none => none
    else none) := by
  have base := pe_bm (cpos := q) PySem.F.plainAttrs_list PySem.F.slot_list_append PySem.F.type_list_append mt_append ha (pa_cons hb pa_nil (starEach_cons hst)) hbase (by rw [starEach1 hst]; rfl) hline (starEach_cons hst) rfl
  refine PS.imp (ps_expr base hs) fun D' σ H ⟨ρ, m, s, hR, hP⟩ => ?_
  refine ⟨ρ, m, s, hR, (PSO.sbd (R := RD C.X.K) hR hP).mono fun v H1 ⟨x, m1, s1, t1, S1, rx, hR1, q⟩ => ?_⟩
  split at q
  · rename_i hl
    obtain ⟨l, vs, e1, h1⟩ := isLst_val S1 rx hl
    subst e1
    refine ⟨.inl ⟨rfl, vs, SqL.of h1⟩, ρ, m1, s1, hR1, (PSO.sbd (R := RD C.X.K) hR1 q).mono fun u H2 ⟨y, m2, s2, t2, S2, ry, hR2, q2⟩ => ?_⟩
    split at q2
    · rename_i s3 e3
      obtain ⟨l', vs', e4, h4, h5, h6, h7⟩ := app_use S2 (RD.later t2.later x _ rx) ry e3
      exact ⟨l', vs', u, e4, rfl, h4, h5, q2 σ m2 _ h6 (hR2.step h6 h7)⟩
    · exact (show False from q2).elim
  · exact (show False from q).elim
theorem ss_sto {q : Pos} {i e : Expr} {ci ce : Env → Sto → Option (Out D)} (hu : C.X.A.units + 1 < cLine) (hsl : isSlice i = false) (hs : swapsWithSole [.Subscript a i q] e pos.line C.X.env = pure false)
    (ha : SE C a ca) (hi : SE C i ci) (he : SE C e ce) : SS C (.Assign [.Subscript a i q] e pos) (fun ρ s => sbd ρ (ce ρ s) fun y s1 => sbd ρ (ca ρ s1) fun x s2 => sbd ρ (ci ρ s2) fun k s3 => match stoD C.L x k y s3 with
    | some s4 => some (.nx ρ s4)
    | none => none) := by
  have hg : PG C.X (.Subscript a i q) (gSub (tG C (RD C.X.K) ca) (tG C (RD C.X.K) ci) rSetAll) := pg_sub ha hi (set_all hu) (by intro v; cases i <;> first | rfl | cases hsl)
  refine PS.imp (ps_asg he hg hs rfl rfl) fun D' σ H ⟨ρ, m, s, hR, hP⟩ => ?_
  refine ⟨ρ, m, s, hR, (PSO.sbd (R := RD C.X.K) hR hP).mono fun u H1 ⟨y, m1, s1, t1, S1, ry, hR1, q1⟩ => ?_⟩
  refine ⟨ρ, m1, s1, hR1, (PSO.sbd (R := RD C.X.K) hR1 q1).mono fun v H2 ⟨x, m2, s2, t2, S2, rx, hR2, q2⟩ => ?_⟩
  refine ⟨ρ, m2, s2, hR2, (PSO.sbd (R := RD C.X.K) hR2 q2).mono fun iv H3 ⟨k, m3, s3, t3, S3, rk, hR3, q3⟩ => ?_⟩
  split at q3
  · rename_i s4 e4
    exact sto_use S3 (RD.later t3.later x v rx) rk (RD.later t3.later y u (RD.later t2.later y u ry)) e4 fun H' h1 h2 => q3 σ m3 H' h1 (hR3.step h1 h2)
  · exact (show False from q3).elim

/-! ### loops -/
theorem ss_for {t : E} {body : List Stmt} {ci : Env → Sto → Option (Out (List D))} {cb : Env → Sto → Option SO} (hp : PassesOwn (model C.X.prog C.X.w) C.X.A C.X.env C.X.xe) (hc : C.X.calm = true) (hi : SI C tg a ci) (hg : PG C.X tg (tT C.X.K C.L t)) (hb : SSs C body cb)
    (hs : ∀ v, foldedSetIterable a C.X.env v = pure v) : SS C (.For tg a body [] pos) (fun ρ s => sbd ρ (ci ρ s) fun xs s1 => forL (fun x ρ1 s2 => match bindT t x ρ1 with
    | some ρ2 => cb ρ2 s2
    | none => none) xs ρ s1) := by
  refine PS.imp (ps_for hp hc hi hg hb hs) fun D' σ H ⟨ρ, m, s, hR, hP⟩ => ?_
  refine ⟨ρ, m, s, hR, (PSO.sbd (R := RI C.X.K) hR hP).mono fun J H1 ⟨xs, m1, s1, t1, S1, rJ, hR1, q1⟩ => ?_⟩
  refine ⟨fun i n σ' Hc => n = xs.length - i ∧ i ≤ xs.length ∧ ∃ ρ' mc sc, Rel C mc sc Hc ρ' σ' ∧ Step C.L m1 s1 H1 mc sc Hc ∧ PSO C.X.K C.ca C.L C.W mc sc Hc (forL (fun x ρ1 s2 => match bindT t x ρ1 with
    | some ρ2 => cb ρ2 s2
    | none => none) (xs.drop i) ρ' sc) D', ⟨xs.length, rfl, Nat.zero_le _, ρ, m1, s1, hR1, .refl, q1⟩, ?_⟩
  rintro i n σ' Hc ⟨rfl, hi, ρ', mc, sc, hRc, tc, qc⟩
  obtain ⟨r1, r2⟩ := rJ mc Hc tc.later.mv
  by_cases hlt : i < xs.length
  · right
    obtain ⟨go, yl⟩ := r1 i xs[i] (List.getElem?_eq_getElem hlt)
    rw [List.drop_eq_getElem_cons hlt] at qc
    refine ⟨go, fun σ2 H2 => ∃ n', n' < xs.length - i ∧ (n' = xs.length - (i + 1) ∧ i + 1 ≤ xs.length ∧ ∃ ρ' mc sc, Rel C mc sc H2 ρ' σ2 ∧ Step C.L m1 s1 H1 mc sc H2 ∧ PSO C.X.K C.ca C.L C.W mc sc H2 (forL (fun x ρ1 s2 => match bindT t x ρ1 with
      | some ρ2 => cb ρ2 s2
      | none => none) (xs.drop (i + 1)) ρ' sc) D'), fun σ2 H2 z => z, fun v H2 y2 => ?_⟩
    obtain ⟨same, lt2, rv⟩ := yl v H2 y2
    have S2 : SRel C.X.K mc sc H2 := hRc.sr.same lt2 same
    have st2 : Step C.L mc sc Hc mc sc H2 := ⟨lt2, Nat.le_refl _, fun k _ c' h => ⟨c', h, fun d hd => .inr hd⟩⟩
    have hR2 : Rel C mc sc H2 ρ' σ' := hRc.step st2 S2
    have qc := PSO.step st2 qc
    have tc2 := tc.trans st2
    unfold forL at qc
    match e : bindT t xs[i] ρ' with
    | none =>
      rw [e] at qc
      exact (show False from qc).elim
    | some ρ2 =>
      rw [e] at qc
      dsimp only at qc
      refine ⟨ρ', mc, sc, xs[i], ρ2, hR2, rv, e, fun σ3 hR3 _ => ?_⟩
      refine ⟨ρ2, mc, sc, hR3, ?_⟩
      match e2 : cb ρ2 sc with
      | none =>
        rw [e2] at qc
        exact (show False from qc).elim
      | some (.ret d s') =>
        rw [e2] at qc
        exact qc
      | some (.exc k ρ3 s') =>
        rw [e2] at qc
        exact qc
      | some (.nx ρ3 s') =>
        rw [e2] at qc
        intro σ4 m4 H4 t4 R4
        exact ⟨xs.length - (i + 1), by omega, rfl, hlt, ρ3, m4, s', R4, tc2.trans t4, PSO.step t4 qc⟩
  · have ei : i = xs.length := by omega
    subst ei
    refine .inl ⟨r2, ?_⟩
    rw [List.drop_length] at qc
    exact qc σ' mc Hc .refl hRc
theorem ss_while {body : List Stmt} {cb : Env → Sto → Option SO} (n : Nat) (hp : PassesOwn (model C.X.prog C.X.w) C.X.A C.X.env C.X.xe) (ha : ST C a ca) (hb : SSs C body cb) : SS C (.While a body [] pos) (fun ρ s => whlF ca cb n ρ s) := by
  refine PS.imp (ps_while hp ha hb) fun D' σ H ⟨ρ, m, s, hR, hP⟩ => ?_
  refine ⟨fun k σ' Hc => ∃ ρ' mc sc, Rel C mc sc Hc ρ' σ' ∧ PSO C.X.K C.ca C.L C.W mc sc Hc (whlF ca cb k ρ' sc) D', ⟨n, ρ, m, s, hR, hP⟩, ?_⟩
  rintro k σ' Hc ⟨ρ', mc, sc, hRc, qc⟩
  cases k with
  | zero => exact (show False from qc).elim
  | succ k =>
    have e : whlF ca cb (k + 1) ρ' sc = sbd ρ' (tst (ca ρ' sc)) fun b s1 => if b = true then (match cb ρ' s1 with
        | some (.nx ρ1 s2) => whlF ca cb k ρ1 s2
        | r => r) else some (.nx ρ' s1) := by
      show (sbd ρ' (ca ρ' sc) fun x s1 => match x with
        | .bl true => match cb ρ' s1 with
          | some (.nx ρ1 s2) => whlF ca cb k ρ1 s2
          | r => r
        | .bl false => some (.nx ρ' s1)
        | _ => none) = _
      match ca ρ' sc with
      | none => rfl
      | some (.exc k s) => rfl
      | some (.ok d s) =>
        cases d with
        | bl b => cases b <;> rfl
        | _ => rfl
    rw [e] at qc
    refine ⟨ρ', mc, sc, hRc, (PSO.sbd (R := RB) hRc qc).mono fun v H1 ⟨x, m1, s1, t1, S1, rx, hR1, q⟩ => ?_⟩
    have rx : x = v := rx
    subst rx
    cases x with
    | false =>
      rw [if_neg Bool.false_ne_true] at q ⊢
      exact q σ' m1 H1 .refl hR1
    | true =>
      rw [if_pos rfl] at q ⊢
      refine ⟨fun σ2 H2 => ∃ k', k' < k + 1 ∧ ∃ ρ' mc sc, Rel C mc sc H2 ρ' σ2 ∧ PSO C.X.K C.ca C.L C.W mc sc H2 (whlF ca cb k' ρ' sc) D', fun σ2 H2 z => z, ρ', m1, s1, hR1, ?_⟩
      match e2 : cb ρ' s1 with
      | none =>
        rw [e2] at q
        exact (show False from q).elim
      | some (.ret d s') =>
        rw [e2] at q
        exact q
      | some (.exc k ρ3 s') =>
        rw [e2] at q
        exact q
      | some (.nx ρ3 s') =>
        rw [e2] at q
        intro σ4 m4 H4 t4 R4
        exact ⟨k, Nat.lt_succ_self _, ρ3, m4, s', R4, PSO.step t4 q⟩
/-- raise -/
theorem ss_raise {k : Nat} (hc : C.X.calm = true) (tk : L2N.Takes C.X C.W) (h : L2N.PMk C.X a (fun _ H Q => Q (.ref (C.ca k)) none H)) : SS C (.Raise (some a) none pos) (fun ρ s => some (.exc k ρ s)) := by
  refine PS.imp (L2N.ps_raise hc tk h) fun D' σ H ⟨ρ, m, s, hR, hP⟩ => ?_
  exact hP σ m H .refl hR
end
end EV

set_option maxHeartbeats 2000000
/-! the class Pile: fields stored, pop -/
namespace EV
open PySem PySem.Spec PyProof.Rows L2
section
variable {C : Ct} {m m1 m2 : Pl} {H H1 H2 : Hp} {s s1 s2 : Sto} {ρ : Env} {σ : L2.St} {K : PySem.W.Frag} {L : Nat}
variable {a b c x y z : Expr} {ca cb cc : Env → Sto → Option (Out D)} {pos p apos : Pos} {es : List Expr} {cs : Env → Sto → Option (Out (List D))} {CT : CTb} {nm : Str} {f : Nat}
/-! ### statements -/
theorem RFs.length : ∀ {fs : List (Str × D)} {vs : List (Str × V)}, RFs K m H fs vs → fs.length = vs.length
  | [], vs, h => by
    rw [show vs = [] from h]
    rfl
  | (k, x) :: xs, vs, h => by
    obtain ⟨v, r, rfl, h1, h2⟩ := h
    simp only [List.length_cons, RFs.length h2]
theorem putD_mem {k : Str} {d : D} : ∀ {fs : List (Str × D)} {q : Str × D}, q ∈ putD k d fs → q ∈ fs ∨ q = (k, d)
  | [], q, h => .inr (List.mem_singleton.mp h)
  | (j, u) :: r, q, h => by
    unfold putD at h
    split at h
    · rcases List.mem_cons.mp h with h | h
      · exact .inr h
      · exact .inl (List.mem_cons_of_mem _ h)
    · rcases List.mem_cons.mp h with h | h
      · exact .inl (by rw [h]; exact List.mem_cons_self)
      · rcases putD_mem h with h | h
        · exact .inl (List.mem_cons_of_mem _ h)
        · exact .inr h
/-- a.k = e -/
theorem ss_fst {k : Str} {q : Pos} (PF : PileF C.X.K C.X.mg) (hs : swapsWith b (some (.Attribute a k q)) pos.line C.X.env = pure false) (ha : SE C a ca) (hb : SE C b cb) :
    SS C (.Assign [.Attribute a k q] b pos) (fun ρ s => sbd ρ (cb ρ s) fun y s1 => sbd ρ (ca ρ s1) fun x s2 => match fstD C.L x k y s2 with
    | some s3 => some (.nx ρ s3)
    | none => none) := by
  refine PS.imp (ps_fld ha hb hs) fun D' σ H ⟨ρ, m, s, hR, hP⟩ => ?_
  refine ⟨ρ, m, s, hR, (PSO.sbd (R := RD C.X.K) hR hP).mono fun u H1 ⟨y, m1, s1, t1, S1, ry, hR1, q1⟩ => ?_⟩
  refine ⟨ρ, m1, s1, hR1, (PSO.sbd (R := RD C.X.K) hR1 q1).mono fun v H2 ⟨x, m2, s2, t2, S2, rx, hR2, q2⟩ => ?_⟩
  have ry2 := RD.later t2.later y u ry
  split at q2
  · rename_i s3 e3
    unfold fstD at e3
    split at e3
    · rename_i n
      split at e3
      · rename_i fs hc
        split at e3
        · rename_i hk
          obtain ⟨hw, e2⟩ := wr_some e3
          subst e2
          obtain ⟨a, e1, ha⟩ := rx
          obtain ⟨c0, hc0, rc⟩ := S2.at ha
          rw [hc] at hc0
          cases hc0
          obtain ⟨dx, vs, h1, h2, h3⟩ := rc
          refine ⟨a, _, dx, vs, e1, h1, PF.cls, PF.noat k hk.1, by rw [← h2.length]; exact hk.2, ?_⟩
          have mu : Mut (.ins (pilA C.X.K) dx vs) := .inr (.inr ⟨_, _, _, rfl⟩)
          have st := Step.write (L := C.L) (cc := .ins (putD k y fs)) (o := .ins (pilA C.X.K) dx (putF k u vs)) (d := y) ha h1 mu hc hw fun z hz => by
            obtain ⟨q, hq, rfl⟩ := List.mem_map.mp hz
            rcases putD_mem hq with h | h
            · exact .inl (List.mem_map.mpr ⟨q, h, rfl⟩)
            · exact .inr (by rw [h])
          have sr := S2.write (cc := .ins (putD k y fs)) (o := .ins (pilA C.X.K) dx (putF k u vs)) ha h1 mu ⟨dx, putF k u vs, upd_same, RFs.mv (Mv.write ha h1 mu) _ _ (RFs.put ry2 h2), fun q hq => by
            rcases putD_mem hq with h | h
            · exact h3 q h
            · rw [h]
              exact hk.1⟩
          exact q2 σ m2 _ st (hR2.step st sr)
        · cases e3
      · cases e3
    · cases e3
  · exact (show False from q2).elim
/-- a.pop() -/
theorem ss_pop {q apos : Pos} (hs : swapsWith (.Call (.Attribute a "pop" apos) [] [] q) none pos.line C.X.env = pure false) (hbase : attributeBase a "pop" C.X.env (eval a C.X.env) = eval a C.X.env) (hline : (apos.endLine == q.line) = true)
    (ha : SE C a ca) : SS C (.Expr (.Call (.Attribute a "pop" apos) [] [] q) pos) (fun ρ s => sbd ρ (ca ρ s) fun x s1 => match popD C.L x s1 with
    | some s2 => some (.nx ρ s2)
    | none => none) := by
  have base := pe_bm0 (cpos := q) PySem.F.plainAttrs_list PySem.F.slot_list_pop PySem.F.type_list_pop mt_pop ha hbase hline
  refine PS.imp (ps_expr base hs) fun D' σ H ⟨ρ, m, s, hR, hP⟩ => ?_
  refine ⟨ρ, m, s, hR, (PSO.sbd (R := RD C.X.K) hR hP).mono fun v H1 ⟨x, m1, s1, t1, S1, rx, hR1, q⟩ => ?_⟩
  split at q
  · rename_i s3 e3
    unfold popD at e3
    split at e3
    · rename_i n
      split at e3
      · rename_i xs hc
        split at e3
        · rename_i hne
          obtain ⟨hw, e2⟩ := wr_some e3
          subst e2
          obtain ⟨l, e1, hl⟩ := rx
          obtain ⟨c0, hc0, rc⟩ := S1.at hl
          rw [hc] at hc0
          cases hc0
          obtain ⟨vs, h1, h2⟩ := rc
          subst e1
          have hlen := h2.length
          obtain ⟨y, hy⟩ : ∃ y, vs[vs.length - 1]? = some y := by
            refine ⟨vs[vs.length - 1]'?_, List.getElem?_eq_getElem _⟩
            have : xs.length ≠ 0 := fun z => hne (List.length_eq_zero_iff.mp z)
            omega
          refine ⟨.inl ⟨rfl, vs, SqL.of h1⟩, l, vs, y, rfl, rfl, h1, hy, ?_⟩
          have mu : Mut (.lst vs) := .inl ⟨_, rfl⟩
          have ed : xs.dropLast = xs.take (xs.length - 1) := List.dropLast_eq_take
          have ev : vs.dropLast = vs.take (vs.length - 1) := List.dropLast_eq_take
          have st := Step.write (L := C.L) (cc := .lst xs.dropLast) (o := .lst vs.dropLast) (d := .non) hl h1 mu hc (.inr rfl) fun z hz => .inl ((List.dropLast_sublist xs).subset hz)
          have sr := S1.write (cc := .lst xs.dropLast) (o := .lst vs.dropLast) hl h1 mu ⟨_, upd_same, by
            rw [ed, ev, hlen]
            exact RDs.mv (Mv.write hl h1 mu) _ _ (h2.take _)⟩
          exact q σ m1 _ st (hR1.step st sr)
        · cases e3
      · cases e3
    · cases e3
  · exact (show False from q).elim
end
end EV

set_option maxHeartbeats 4000000
/-! statements: the checker is sound -/
namespace EV
open PySem PySem.Spec PyProof.Rows L2
def swNames (sc : Scope) (ts : List Expr) : List Str := ts.filterMap fun
      | .Name id pos => if sc.names.lookup id == some .local && pos.line == (ts.head?.map (·.pos.line)).getD 0 then some id else none
      | _ => none
def swS (sc : Scope) (ts vs : List Expr) : Option (Option (List Str)) :=
  if (!(ts.length == 2 || ts.length == 3) || vs.length != ts.length) = true then some none
  else if vs.any isStar = true then some none
  else if ((swNames sc ts).length != ts.length || (swNames sc ts).eraseDups.length != (swNames sc ts).length) = true then some none
  else if vs.all (foldedForSure 8) = true then some none
  else if vs.all (constantsAlone 8) = true then none
  else some (some (swNames sc ts))
theorem swS_ok {env : PySem.Env} {ts vs : List Expr} {k k2 : Nat} {p p2 : Pos} {r : Option (List Str)} (hk : env.scope.kind = .function) (h : swS env.scope ts vs = some r) : swappedStores [.Tuple ts k p] (.Tuple vs k2 p2) env = pure r := by
  have hb : env.blockKind = .function := by unfold Env.blockKind; rw [hk]; rfl
  unfold swappedStores
  simp only [hb]
  show (if (!(ts.length == 2 || ts.length == 3) || vs.length != ts.length || ScopeKind.function != ScopeKind.function) = true then (pure none : Sem (Option (List Str))) else
    if vs.any isStar = true then pure none else
    if ((swNames env.scope ts).length != ts.length || (swNames env.scope ts).eraseDups.length != (swNames env.scope ts).length) = true then pure none else
    if vs.all (foldedForSure 8) = true then pure none else
    if vs.all (constantsAlone 8) = true then (do unsupported "assign.tuple-of-constant-expressions:order-of-the-stores"; pure (some (swNames env.scope ts))) else pure (some (swNames env.scope ts))) = pure r
  unfold swS at h
  have e : (!(ts.length == 2 || ts.length == 3) || vs.length != ts.length || ScopeKind.function != ScopeKind.function) = (!(ts.length == 2 || ts.length == 3) || vs.length != ts.length) := by simp
  rw [e]
  split at h
  · rename_i h1
    cases h
    rw [if_pos h1]
  · rename_i h1
    rw [if_neg h1]
    split at h
    · rename_i h2
      cases h
      rw [if_pos h2]
    · rename_i h2
      rw [if_neg h2]
      split at h
      · rename_i h3
        cases h
        rw [if_pos h3]
      · rename_i h3
        rw [if_neg h3]
        split at h
        · rename_i h4
          cases h
          rw [if_pos h4]
        · rename_i h4
          rw [if_neg h4]
          split at h
          · cases h
          · rename_i h5
            cases h
            rw [if_neg h5]

/-- whether the comprehension's variables are let go with the store exchanged -/
def swV (sc : Scope) (n : Str) (p : Pos) : Expr → Option Bool
  | .ListComp _ _ s q => some ((sc.names.lookup n == some .local) && p.line == q.line && !(s.names.any fun (m, k) => m == n && (k == .local || k == .cell)))
  | .SetComp .. => none
  | .DictComp .. => none
  | _ => some false
def isComp : Expr → Bool
  | .ListComp .. => true
  | .SetComp .. => true
  | .DictComp .. => true
  | _ => false
theorem swV_ok {env : PySem.Env} {x : Expr} {n : Str} {p : Pos} {l : Nat} {b : Bool} (hk : env.scope.kind = .function) (h : swV env.scope n p x = some b) : swapsWith x (some (.Name n p)) l env = pure b := by
  have hb : env.blockKind = .function := by unfold Env.blockKind; rw [hk]; rfl
  cases x with
  | ListComp e gs s q =>
    have h : some ((env.scope.names.lookup n == some .local) && p.line == q.line && !(s.names.any fun (m, k) => m == n && (k == .local || k == .cell))) = some b := h
    have h := Option.some.inj h
    subst h
    unfold swapsWith
    simp only [hb, Expr.pos, Env.kindOf]
    rfl
  | SetComp => cases h
  | DictComp => cases h
  | _ =>
    cases h
    rfl
theorem noComp {env : PySem.Env} {x : Expr} {t : Option Expr} {l : Nat} (h : isComp x = false) : swapsWith x t l env = pure false := by
  cases x <;> first | rfl | cases h
theorem notName {env : PySem.Env} {x t : Expr} {l : Nat} (h : isTup t = true ∨ ∃ a b c, t = .Subscript a b c) : swapsWith x (some t) l env = pure false := by
  rcases h with h | ⟨a, b, c, e⟩
  · cases t <;> first | (cases x <;> rfl) | cases h
  · subst e
    cases x <;> rfl
/-- no call of super's -/
def plainO : Expr → Bool
  | .Name .. => true
  | .Attribute .. => true
  | _ => false
theorem plainO_ok {o : Expr} {m : Str} {env : PySem.Env} (h : plainO o = true) : attributeBase o m env (eval o env) = eval o env := by
  cases o <;> first | rfl | cases h
def isWlk : E → Bool
  | .wlk .. => true
  | _ => false
structure Tx where
  isX : Nat → Bool
  xn : Nat → Str
/-- the names of the slots -/
def namesAt (N : List Str) (is : List Nat) : List Str := is.filterMap fun i => N[i]?
mutual
/-- a block -/
def chkB (T : Tb) (X : Tx) (N : List Str) : S → Scope → List Stmt → Bool
  | .skip, _, sts => match sts with
    | [] => true
    | _ => false
  | .seq a b, sc, sts => match sts with
    | st :: r => chk1 T X N a sc st && chkB T X N b sc r
    | _ => false
  | _, _, _ => false
/-- one statement -/
def chk1 (T : Tb) (X : Tx) (N : List Str) : S → Scope → Stmt → Bool
  | .set i e, sc, st => match st with
    | .Assign [.Name n p] x _ => decide (N[i]? = some n) && locB true sc n && chk T N e sc x && (swV sc n p x).isSome && !(isWlk e)
    | _ => false
  | .par is es, sc, st => match st with
    | .Assign [.Tuple ts _ _] (.Tuple vs _ _) _ => (match is, ts, vs with
      | [i, j], [.Name n _, .Name n' _], [_, _] => decide (N[i]? = some n) && decide (N[j]? = some n') && decide (i ≠ j) && decide (sc.names.lookup n = some .local) && decide (sc.names.lookup n' = some .local) && decide (swS sc ts vs = some (some [n, n']))
      | [i, j, k], [.Name n _, .Name n' _, .Name n'' _], [_, _, _] => decide (N[i]? = some n) && decide (N[j]? = some n') && decide (N[k]? = some n'') && decide (i ≠ j) && decide (i ≠ k) && decide (j ≠ k) && decide (sc.names.lookup n = some .local) && decide (sc.names.lookup n' = some .local) && decide (sc.names.lookup n'' = some .local) && decide (swS sc ts vs = some (some [n, n', n'']))
      | _, _, _ => false) && chks T N es sc vs
    | _ => false
  | .unp tg e, sc, st => match st with
    | .Assign [.Tuple ts k p] x _ => chkT N true tg sc (.Tuple ts k p) && chk T N e sc x && (match x with
      | .Tuple vs _ _ => decide (swS sc ts vs = some none)
      | _ => true)
    | _ => false
  | .ifs c t f, sc, st => match st with
    | .If x a b _ => !(isIf x) && chk T N c sc x && chkB T X N t sc a && chkB T X N f sc b
    | _ => false
  | .for_ tg it b, sc, st => match st with
    | .For t x body [] _ => chki T N it sc t x && chkT N true tg sc t && !(isSet x) && chkB T X N b sc body
    | _ => false
  | .whl _ c b, sc, st => match st with
    | .While x body [] _ => !(isIf x) && chk T N c sc x && chkB T X N b sc body
    | _ => false
  | .ret e, sc, st => match st with
    | .Return (some x) _ => chk T N e sc x
    | _ => false
  | .retN, _, st => match st with
    | .Return none _ => true
    | _ => false
  | .expr e, sc, st => match st with
    | .Expr x _ => !(isComp x) && chk T N e sc x
    | _ => false
  | .app a e, sc, st => match st with
    | .Expr (.Call (.Attribute o nm apos) [y] [] q) _ => decide (nm = "append") && !(isStar y) && (apos.endLine == q.line) && plainO o && chk T N a sc o && chk T N e sc y
    | _ => false
  | .sto a i e, sc, st => match st with
    | .Assign [.Subscript o k _] x _ => !(isSlice k) && chk T N a sc o && chk T N i sc k && chk T N e sc x
    | _ => false
  | .fst a k e, sc, st => match st with
    | .Assign [.Attribute (.Name o p) n q] x pos => T.pil && decide (n = k) && chk T N a sc (.Name o p) && chk T N e sc x && !(isComp x)
    | _ => false
  | .pop a, sc, st => match st with
    | .Expr (.Call (.Attribute o nm apos) [] [] q) _ => decide (nm = "pop") && (apos.endLine == q.line) && plainO o && chk T N a sc o
    | _ => false
  | .rse k, sc, st => match st with
    | .Raise (some (.Call (.Name n _) [.Constant (.str _) _ _] [] _)) none _ => X.isX k && decide (X.xn k = n) && glB sc n && notDbg n
    | _ => false
  | _, _, _ => false
end
/-- what stands around a def's body -/
structure GS (T : Tb) (X : Tx) (CT : CTb) (C : Ct) : Prop where
  ok : GOk T CT C
  pass : PassesOwn (model C.X.prog C.X.w) C.X.A C.X.env C.X.xe
  fnn : ∀ n, C.X.fn n = true
  kind : C.X.env.scope.kind = .function
  exc : ∀ k, X.isX k = true → ∀ (p p2 pos : Pos) (msg : Str) (j : Nat), Gl C.X (X.xn k) → (X.xn k == ("__debug__" : Str)) = false → L2N.PMk C.X (.Call (.Name (X.xn k) p) [.Constant (.str msg) j p2] [] pos) (fun _ H Q => Q (.ref (C.ca k)) none H)
section
variable {C : Ct} {T : Tb} {X : Tx} {CT : CTb} {sc : Scope} {N : List Str}
/-- a comprehension stored at a name with the store exchanged -/
theorem comp_set {own : List Nat} {tg elt it cond : E} {e : Expr} {gs : List Comprehension} {scope : Scope} {q p pos : Pos} {n : Str} {i : Nat} (G : GOk T CT C) (hN : C.X.N = N) (hs : C.X.env.scope = sc) (hi : N[i]? = some n) (hl : sc.names.lookup n = some .local)
    (hsw : swapsWith (.ListComp e gs scope q) (some (.Name n p)) pos.line C.X.env = pure true) (h : chk T N (.comp own tg elt it cond) sc (.ListComp e gs scope q) = true) :
    PS C.X (.Assign [.Name n p] (.ListComp e gs scope q) pos) (tAsg (tG C (RD C.X.K) (ev CT (.comp own tg elt it cond))) (gName i)) := by
  simp only [chk] at h
  split at h
  · rename_i e' tg' it' ifs scope' pos' heq
    cases heq
    simp only [Bool.and_eq_true] at h
    obtain ⟨⟨⟨⟨⟨⟨⟨h1, h2⟩, h3⟩, h4⟩, h5⟩, h6⟩, h7⟩, h8⟩ := h
    have e3 := of_decide_eq_true h3
    have hset : ∀ v, foldedSetIterable it' C.X.env v = pure v := fun v => by
      cases it' <;> first | rfl | cases h6
    have hblk : ∀ (s : Shared) (H : Hp) (A : Addr) (cl : List (Str × Addr)) (fp : List Addr), (C.blk (C.X.blk s H scope (compEnvC scope cl A C.X.env) fp)).X.env.scope = relS scope sc := fun s H A cl fp => by
      subst hs
      rfl
    have hpt : ∀ (s : Shared) (H : Hp) (A : Addr) (cl : List (Str × Addr)) (fp : List Addr), PTs (C.X.blk s H scope (compEnvC scope cl A C.X.env) fp) ifs (tG' C.X.K C.ca C.L (fun _ _ _ _ => False) RB fun ρ s => tst (ev CT cond ρ s)) := fun s H A cl fp => by
      split at h8
      · split at h8
        · refine ⟨fun pins s' σ' H' Q I q => pts_nil.run pins s' σ' H' Q I ?_⟩
          obtain ⟨ρ, m, s1, hR, hP⟩ := q
          exact hP m H' true .refl hR.sr rfl
        · cases h8
      · simp only [Bool.and_eq_true] at h8
        exact pts_one ((chd cond).st (C.blk (C.X.blk s H scope (compEnvC scope cl A C.X.env) fp)) (relS scope sc) _ (G.blk s H scope cl A fp) hN (hblk s H A cl fp) h8.2 (nif h8.1))
      · cases h8
    subst hN
    have base := ps_setLc (spos := pos) (py := p) (pos := q) (wi := tG C (RI C.X.K) (evi CT it)) (tt := tG' C.X.K C.ca C.L (fun _ _ _ _ => False) RB fun ρ s => tst (ev CT cond ρ s)) (g := tT C.X.K C.L tg) (te := tG' C.X.K C.ca C.L (fun _ _ _ _ => False) (RD C.X.K) (ev CT elt)) (elt := e) G.calm G.nd hi (by rw [hs]; exact hl) hsw
      ((chd it).si C sc tg' it' G rfl hs h1) (blkOk_by (own := own.filterMap fun i => (C.X.N[i]?).map fun n => (n, i)) (by rw [hs]; exact h2))
      (fun s H A cl fp => (tg_ok (N := C.X.N) tg).tg (C.blk (C.X.blk s H scope (compEnvC scope cl A C.X.env) fp)) false (relS scope sc) tg' G.calm G.nd rfl (hblk s H A cl fp) (fun z => nomatch z) h5)
      hpt (fun s H A cl fp => (chd elt).se (C.blk (C.X.blk s H scope (compEnvC scope cl A C.X.env) fp)) (relS scope sc) e (G.blk s H scope cl A fp) rfl (hblk s H A cl fp) h7) hset
    refine PS.imp base fun D' σ H hq => ?_
    refine lc_use (mm := false) (own := own.filterMap fun i => (C.X.N[i]?).map fun n => (n, i)) (fun i hi => ?_) ?_
    · rw [e3]
      exact List.contains_iff_mem.mp (List.all_eq_true.mp h4 i hi)
    · rw [e3]
      exact hq
  · cases h
theorem comp_setM {own : List Nat} {tg elt it cond : E} {e : Expr} {gs : List Comprehension} {scope : Scope} {q p pos : Pos} {n : Str} {i : Nat} (G : GOk T CT C) (hN : C.X.N = N) (hs : C.X.env.scope = sc) (hi : N[i]? = some n) (hl : sc.names.lookup n = some .local)
    (hsw : swapsWith (.ListComp e gs scope q) (some (.Name n p)) pos.line C.X.env = pure true) (h : chk T N (.cpm own tg elt it cond) sc (.ListComp e gs scope q) = true) :
    PS C.X (.Assign [.Name n p] (.ListComp e gs scope q) pos) (tAsg (tG C (RD C.X.K) (ev CT (.cpm own tg elt it cond))) (gName i)) := by
  simp only [chk] at h
  split at h
  · rename_i e' tg' it' ifs scope' pos' heq
    cases heq
    simp only [Bool.and_eq_true] at h
    obtain ⟨⟨⟨⟨⟨⟨⟨h1, h2⟩, h3⟩, h4⟩, h5⟩, h6⟩, h7⟩, h8⟩ := h
    have e3 := of_decide_eq_true h3
    have hset : ∀ v, foldedSetIterable it' C.X.env v = pure v := fun v => by
      cases it' <;> first | rfl | cases h6
    have hblk : ∀ (s : Shared) (H : Hp) (A : Addr) (cl : List (Str × Addr)) (fp : List Addr), (C.blk (C.X.blk s H scope (compEnvC scope cl A C.X.env) fp)).X.env.scope = relS scope sc := fun s H A cl fp => by
      subst hs
      rfl
    have hpt : ∀ (s : Shared) (H : Hp) (A : Addr) (cl : List (Str × Addr)) (fp : List Addr), PTs (C.X.blk s H scope (compEnvC scope cl A C.X.env) fp) ifs (tG' C.X.K C.ca C.L (fun _ _ _ _ => False) RB fun ρ s => tst (ev CT cond ρ s)) := fun s H A cl fp => by
      split at h8
      · split at h8
        · refine ⟨fun pins s' σ' H' Q I q => pts_nil.run pins s' σ' H' Q I ?_⟩
          obtain ⟨ρ, m, s1, hR, hP⟩ := q
          exact hP m H' true .refl hR.sr rfl
        · cases h8
      · simp only [Bool.and_eq_true] at h8
        exact pts_one ((chd cond).st (C.blk (C.X.blk s H scope (compEnvC scope cl A C.X.env) fp)) (relS scope sc) _ (G.blk s H scope cl A fp) hN (hblk s H A cl fp) h8.2 (nif h8.1))
      · cases h8
    subst hN
    have base := ps_setLc (spos := pos) (py := p) (pos := q) (wi := tG C (RI C.X.K) (evi CT it)) (tt := tG' C.X.K C.ca C.L (fun _ _ _ _ => False) RB fun ρ s => tst (ev CT cond ρ s)) (g := tT C.X.K C.L tg) (te := tG' C.X.K C.ca C.L (fun _ _ _ _ => False) (RD C.X.K) (ev CT elt)) (elt := e) G.calm G.nd hi (by rw [hs]; exact hl) hsw
      ((chd it).si C sc tg' it' G rfl hs h1) (blkOk_by (own := own.filterMap fun i => (C.X.N[i]?).map fun n => (n, i)) (by rw [hs]; exact h2))
      (fun s H A cl fp => (tg_ok (N := C.X.N) tg).tg (C.blk (C.X.blk s H scope (compEnvC scope cl A C.X.env) fp)) false (relS scope sc) tg' G.calm G.nd rfl (hblk s H A cl fp) (fun z => nomatch z) h5)
      hpt (fun s H A cl fp => (chd elt).se (C.blk (C.X.blk s H scope (compEnvC scope cl A C.X.env) fp)) (relS scope sc) e (G.blk s H scope cl A fp) rfl (hblk s H A cl fp) h7) hset
    refine PS.imp base fun D' σ H hq => ?_
    refine lc_use (mm := true) (own := own.filterMap fun i => (C.X.N[i]?).map fun n => (n, i)) (fun i hi => ?_) ?_
    · rw [e3]
      exact List.contains_iff_mem.mp (List.all_eq_true.mp h4 i hi)
    · rw [e3]
      exact hq
  · cases h
/-- THE THEOREM for statements -/
structure ChdS (T : Tb) (X : Tx) (CT : CTb) (N : List Str) (e : S) : Prop where
  one : ∀ (C : Ct) (sc : Scope) (st : Stmt), GS T X CT C → C.X.N = N → C.X.env.scope = sc → chk1 T X N e sc st = true → SS C st (ex CT C.L e)
  blk : ∀ (C : Ct) (sc : Scope) (sts : List Stmt), GS T X CT C → C.X.N = N → C.X.env.scope = sc → chkB T X N e sc sts = true → SSs C sts (ex CT C.L e)
theorem chdS_one {e : S} (h0 : ∀ sc sts, chkB T X N e sc sts = false) (h : ∀ (C : Ct) (sc : Scope) (st : Stmt), GS T X CT C → C.X.N = N → C.X.env.scope = sc → chk1 T X N e sc st = true → SS C st (ex CT C.L e)) : ChdS T X CT N e :=
  ⟨h, fun C sc sts _ _ _ q => by rw [h0] at q; cases q⟩
theorem loc_of {n : Str} (h : locB true sc n = true) : Loc sc n ∧ (∀ C : Ct, (∀ n, C.X.fn n = true) → C.X.fn n = true ∨ C.X.env.scope.names.lookup n = some .local) := by
  unfold locB at h
  split at h
  · exact ⟨.inl (by assumption), fun C q => .inl (q n)⟩
  · exact ⟨.inr (by assumption), fun C q => .inl (q n)⟩
  · cases h
theorem chds (e : S) : ChdS T X CT N e := by
  induction e with
  | skip =>
    refine ⟨fun C sc st G hN hs h => (Bool.false_ne_true h).elim, fun C sc sts G hN hs h => ?_⟩
    cases sts with
    | nil => exact ss_nil
    | cons x r => exact (Bool.false_ne_true h).elim
  | seq a b iha ihb =>
    refine ⟨fun C sc st G hN hs h => (Bool.false_ne_true h).elim, fun C sc sts G hN hs h => ?_⟩
    cases sts with
    | nil => exact (Bool.false_ne_true h).elim
    | cons x r =>
      have h : (chk1 T X N a sc x && chkB T X N b sc r) = true := h
      simp only [Bool.and_eq_true] at h
      exact ss_cons (iha.one C sc x G hN hs h.1) (ihb.blk C sc r G hN hs h.2)
  | set i e =>
    refine chdS_one (fun _ _ => rfl) fun C sc st G hN hs h => ?_
    simp only [chk1] at h
    split at h
    · rename_i n p x pos
      simp only [Bool.and_eq_true] at h
      obtain ⟨⟨⟨⟨h1, h2⟩, h3⟩, h4⟩, h5⟩ := h
      have h1 := of_decide_eq_true h1
      obtain ⟨b, hb⟩ := Option.isSome_iff_exists.mp h4
      have hsw := swV_ok (l := pos.line) G.kind (by rw [hs]; exact hb)
      cases b with
      | false =>
        subst hN
        obtain ⟨l1, l2⟩ := loc_of h2
        exact ss_set (ps_set G.ok.nd h1 (by rw [hs]; exact l1) ((chd e).se C sc x G.ok rfl hs h3) hsw (l2 C G.fnn))
      | true =>
        cases x with
        | ListComp el gs scope q =>
          have hb : some ((sc.names.lookup n == some .local) && p.line == q.line && !(scope.names.any fun (m, k) => m == n && (k == .local || k == .cell))) = some true := hb
          have hb := Option.some.inj hb
          simp only [Bool.and_eq_true] at hb
          have hl : sc.names.lookup n = some .local := by simpa using hb.1.1
          cases e with
          | comp own tg elt it cond => exact ss_set (comp_set G.ok hN hs h1 hl hsw h3)
          | wlk => exact (Bool.false_ne_true h5).elim
          | cpm own tg elt it cond => exact ss_set (comp_setM G.ok hN hs h1 hl hsw h3)
          | _ => exact (Bool.false_ne_true h3).elim
        | SetComp => cases hb
        | DictComp => cases hb
        | _ => cases hb
    · cases h
  | par is es =>
    refine chdS_one (fun _ _ => rfl) fun C sc st G hN hs h => ?_
    simp only [chk1] at h
    split at h
    · rename_i ts kt pt vs kv pv pos
      rw [Bool.and_eq_true] at h
      obtain ⟨h, hv⟩ := h
      obtain ⟨hA, _⟩ := (chd es).sa C sc vs G.ok hN hs hv
      split at h
      · simp only [Bool.and_eq_true] at h
        obtain ⟨⟨⟨⟨⟨h1, h2⟩, h3⟩, h4⟩, h5⟩, h6⟩ := h
        have h1 := of_decide_eq_true h1
        have h2 := of_decide_eq_true h2
        have h3 := of_decide_eq_true h3
        have h4 := of_decide_eq_true h4
        have h5 := of_decide_eq_true h5
        have h6 := of_decide_eq_true h6
        subst hN hs
        exact ss_par2 (ps_par G.ok.calm G.ok.nd h1 h2 h3 h4 h5 hA (swS_ok G.kind h6))
      · simp only [Bool.and_eq_true] at h
        obtain ⟨⟨⟨⟨⟨⟨⟨⟨⟨h1, h2⟩, h3⟩, h4⟩, h5⟩, h6⟩, h7⟩, h8⟩, h9⟩, h10⟩ := h
        have h1 := of_decide_eq_true h1
        have h2 := of_decide_eq_true h2
        have h3 := of_decide_eq_true h3
        have h4 := of_decide_eq_true h4
        have h5 := of_decide_eq_true h5
        have h6 := of_decide_eq_true h6
        have h7 := of_decide_eq_true h7
        have h8 := of_decide_eq_true h8
        have h9 := of_decide_eq_true h9
        have h10 := of_decide_eq_true h10
        subst hN hs
        exact ss_par3 (ps_par3 G.ok.calm G.ok.nd h1 h2 h3 h4 h5 h6 h7 h8 h9 hA (swS_ok G.kind h10))
      · cases h
    · cases h
  | unp tg e =>
    refine chdS_one (fun _ _ => rfl) fun C sc st G hN hs h => ?_
    simp only [chk1] at h
    split at h
    · rename_i ts k p x pos
      simp only [Bool.and_eq_true] at h
      obtain ⟨⟨h1, h2⟩, h3⟩ := h
      have hw : swappedStores [.Tuple ts k p] x C.X.env = pure none := by
        split at h3
        · subst hs
          exact swS_ok G.kind (of_decide_eq_true h3)
        · rename_i hx
          cases x with
          | Tuple vs k2 p2 => exact (hx vs k2 p2 rfl).elim
          | _ => rfl
      exact ss_unp ((tg_ok tg).tg C true sc _ G.ok.calm G.ok.nd hN hs (fun _ => G.fnn) h1) ((chd e).se C sc x G.ok hN hs h2) (show swapsWith x (some (.Tuple ts k p)) pos.line C.X.env = pure false from notName (.inl rfl)) hw rfl
    · cases h
  | ifs c t f iht ihf =>
    refine chdS_one (fun _ _ => rfl) fun C sc st G hN hs h => ?_
    simp only [chk1] at h
    split at h
    · simp only [Bool.and_eq_true] at h
      obtain ⟨⟨⟨h1, h2⟩, h3⟩, h4⟩ := h
      exact ss_if ((chd c).st C sc _ G.ok hN hs h2 (nif h1)) (iht.blk C sc _ G hN hs h3) (ihf.blk C sc _ G hN hs h4)
    · cases h
  | for_ tg it b ihb =>
    refine chdS_one (fun _ _ => rfl) fun C sc st G hN hs h => ?_
    simp only [chk1] at h
    split at h
    · rename_i t x body pos
      simp only [Bool.and_eq_true] at h
      obtain ⟨⟨⟨h1, h2⟩, h3⟩, h4⟩ := h
      exact ss_for G.pass G.ok.calm ((chd it).si C sc t x G.ok hN hs h1) ((tg_ok tg).tg C true sc t G.ok.calm G.ok.nd hN hs (fun _ => G.fnn) h2) (ihb.blk C sc body G hN hs h4) (fun v => by cases x <;> first | rfl | cases h3)
    · cases h
  | whl n c b ihb =>
    refine chdS_one (fun _ _ => rfl) fun C sc st G hN hs h => ?_
    simp only [chk1] at h
    split at h
    · simp only [Bool.and_eq_true] at h
      obtain ⟨⟨h1, h2⟩, h3⟩ := h
      exact ss_while n G.pass ((chd c).st C sc _ G.ok hN hs h2 (nif h1)) (ihb.blk C sc _ G hN hs h3)
    · cases h
  | ret e =>
    refine chdS_one (fun _ _ => rfl) fun C sc st G hN hs h => ?_
    simp only [chk1] at h
    split at h
    · exact ss_ret ((chd e).se C sc _ G.ok hN hs h)
    · cases h
  | retN =>
    refine chdS_one (fun _ _ => rfl) fun C sc st G hN hs h => ?_
    simp only [chk1] at h
    split at h
    · exact ss_retN
    · cases h
  | expr e =>
    refine chdS_one (fun _ _ => rfl) fun C sc st G hN hs h => ?_
    simp only [chk1] at h
    split at h
    · simp only [Bool.and_eq_true] at h
      exact ss_expr (noComp (by simpa using h.1)) ((chd e).se C sc _ G.ok hN hs h.2)
    · cases h
  | app a e =>
    refine chdS_one (fun _ _ => rfl) fun C sc st G hN hs h => ?_
    simp only [chk1] at h
    split at h
    · simp only [Bool.and_eq_true] at h
      obtain ⟨⟨⟨⟨⟨h1, h2⟩, h3⟩, h0⟩, h4⟩, h5⟩ := h
      have e1 := of_decide_eq_true h1
      subst e1
      exact ss_app (noComp rfl) (nstar h2) (plainO_ok h0) h3 ((chd a).se C sc _ G.ok hN hs h4) ((chd e).se C sc _ G.ok hN hs h5)
    · cases h
  | sto a i e =>
    refine chdS_one (fun _ _ => rfl) fun C sc st G hN hs h => ?_
    simp only [chk1] at h
    split at h
    · rename_i o k q x pos
      simp only [Bool.and_eq_true] at h
      obtain ⟨⟨⟨h1, h2⟩, h3⟩, h4⟩ := h
      have hu := G.ok.un
      exact ss_sto (by omega) (by simpa using h1) (notName (env := C.X.env) (x := x) (t := .Subscript o k q) (l := pos.line) (.inr ⟨o, k, q, rfl⟩)) ((chd a).se C sc _ G.ok hN hs h2) ((chd i).se C sc _ G.ok hN hs h3) ((chd e).se C sc _ G.ok hN hs h4)
    · cases h
  | fst a k e =>
    refine chdS_one (fun _ _ => rfl) fun C sc st G hN hs h => ?_
    simp only [chk1] at h
    split at h
    · simp only [Bool.and_eq_true] at h
      obtain ⟨⟨⟨⟨h1, h2⟩, h3⟩, h4⟩, h5⟩ := h
      have e1 := of_decide_eq_true h2
      subst e1
      exact ss_fst (G.ok.pil h1) (noComp (by simpa using h5)) ((chd a).se C sc _ G.ok hN hs h3) ((chd e).se C sc _ G.ok hN hs h4)
    · cases h
  | pop a =>
    refine chdS_one (fun _ _ => rfl) fun C sc st G hN hs h => ?_
    simp only [chk1] at h
    split at h
    · simp only [Bool.and_eq_true] at h
      obtain ⟨⟨⟨h1, h2⟩, h3⟩, h4⟩ := h
      have e1 := of_decide_eq_true h1
      subst e1
      exact ss_pop (noComp rfl) (plainO_ok h3) h2 ((chd a).se C sc _ G.ok hN hs h4)
    · cases h
  | rse k =>
    refine chdS_one (fun _ _ => rfl) fun C sc st G hN hs h => ?_
    simp only [chk1] at h
    split at h
    · simp only [Bool.and_eq_true] at h
      obtain ⟨⟨⟨h1, h2⟩, h3⟩, h4⟩ := h
      have e1 := of_decide_eq_true h2
      subst e1
      exact ss_raise G.ok.calm G.ok.tk (G.exc k h1 _ _ _ _ _ (glB_ok hs h3) (notDbg_ok h4).1)
    · cases h
end
end EV

set_option maxHeartbeats 2000000
/-! generator defs: the checker is sound -/
namespace EV
open PySem PySem.Spec PyProof.Rows L2
section
variable {C : Ct} {m m1 m2 : Pl} {H H1 H2 : Hp} {s s1 s2 : Sto} {ρ : Env} {σ : L2.St} {K : PySem.W.Frag} {L : Nat} {CT : CTb} {T : Tb} {N : List Str} {sc : Scope}
theorem gx_use {D' : List V → L2.St → Hp → Prop} {own : List Nat} {eE eT eI : E} {ys : List D} {s' : Sto} (hsub : ∀ i ∈ slots eT, i ∈ own) (hR : Rel C m s H ρ σ) (hev : ev CT (.comp own eT eE eI (.cbl true)) ρ s = some (.ok (.lst ys) s'))
    (hD : ∀ m' H' σ' out, Step C.L m s H m' s' H' → SRel C.X.K m' s' H' → RDs C.X.K m' H' ys out → D' out σ' H') : tXfor (tG C (RI C.X.K) (evi CT eI)) (tT C.X.K C.L eT) (tG C (RD C.X.K) (ev CT eE)) D' [] σ H := by
  refine ⟨ρ, m, s, hR, ?_⟩
  have hev2 : (match evi CT eI ρ s with
    | some (.ok xs s1) => match compL (item CT eT eE (.cbl true) own ρ) xs s1 with
      | some (.ok ys s5) => if ys.length ≤ sizeLine then some (Out.ok (D.lst ys) s5) else none
      | _ => none
    | _ => none) = some (.ok (.lst ys) s') := by
    rw [ev] at hev
    exact hev
  clear hev
  obtain ⟨xs, s1, e1, e2, hz⟩ : ∃ xs s1, evi CT eI ρ s = some (.ok xs s1) ∧ compL (item CT eT eE (.cbl true) own ρ) xs s1 = some (.ok ys s') ∧ ys.length ≤ sizeLine := by
    split at hev2
    · rename_i xs s1 e1
      split at hev2
      · rename_i zs s5 e2
        split at hev2
        · rename_i hz
          cases hev2
          exact ⟨xs, s1, e1, e2, hz⟩
        · cases hev2
      · cases hev2
    · cases hev2
  clear hev2
  show PX C.X.K C.ca C.L (RI C.X.K) m s H (evi CT eI ρ s) _ _
  rw [e1]
  intro m1 H1 J t1 S1 rJ
  refine ⟨fun i n acc σc Hc => n = xs.length - i ∧ i ≤ xs.length ∧ ∃ (mu : Pl) (sc : Sto) (accD ysr : List D), Step C.L m1 s1 H1 mu sc Hc ∧ Rel' C.X.K C.L mu sc Hc (wipeE ρ own) σc ∧ RDs C.X.K mu Hc accD acc ∧ Mv m1 H1 mu Hc ∧
    compL (item CT eT eE (.cbl true) own ρ) (xs.drop i) sc = some (.ok ysr s') ∧ ys = accD ++ ysr, ⟨xs.length, rfl, Nat.zero_le _, m1, s1, [], ys, .refl, ?_, rfl, Later.refl.mv, e2, rfl⟩, ?_⟩
  · have r1 : Rel' C.X.K C.L m1 s1 H1 ρ σ := Rel'.step hR t1 S1
    exact ⟨S1, r1.base, by rw [wipeE_len]; exact r1.len, fun i d h => r1.env i d (wipeE_some h).1⟩
  rintro i n acc σc Hc ⟨rfl, hi, mu, sc, accD, ysr, tc, Rc, rc, mc, ec, ey⟩
  obtain ⟨q1, q2⟩ := rJ mu Hc mc
  by_cases hlt : i < xs.length
  · right
    obtain ⟨go, yl⟩ := q1 i xs[i] (List.getElem?_eq_getElem hlt)
    refine ⟨go, fun acc' σ' H' => ∃ n', n' < xs.length - i ∧ (n' = xs.length - (i + 1) ∧ i + 1 ≤ xs.length ∧ ∃ (mu : Pl) (sc : Sto) (accD ysr : List D), Step C.L m1 s1 H1 mu sc H' ∧ Rel' C.X.K C.L mu sc H' (wipeE ρ own) σ' ∧ RDs C.X.K mu H' accD acc' ∧ Mv m1 H1 mu H' ∧
      compL (item CT eT eE (.cbl true) own ρ) (xs.drop (i + 1)) sc = some (.ok ysr s') ∧ ys = accD ++ ysr), fun _ _ _ z => z, fun v H2 y2 => ?_⟩
    obtain ⟨same, lt2, rv⟩ := yl v H2 y2
    rw [List.drop_eq_getElem_cons hlt] at ec
    obtain ⟨y, s2, zs, f1, f2, f3⟩ := compL_cons ec
    obtain ⟨ρ', g1, g2⟩ := item_cases f1
    have S2 : SRel C.X.K mu sc H2 := Rc.sr.same lt2 same
    have hR2 : Rel' C.X.K C.L mu sc H2 (wipeE ρ own) σc := Rel'.mv Rc lt2.mv S2 (Nat.le_refl _)
    have tc2 : Step C.L m1 s1 H1 mu sc H2 := tc.trans ⟨lt2, Nat.le_refl _, fun k _ c' h => ⟨c', h, fun d hd => .inr hd⟩⟩
    refine ⟨wipeE ρ own, mu, sc, xs[i], ρ', hR2, rv, g1, fun σ' hR3 ho => ?_⟩
    rcases g2 with ⟨s3, d, h1, h2, h3⟩ | ⟨h1, h3⟩
    case inr =>
      rw [ev] at h1
      cases h1
    rw [ev] at h1
    cases h1
    subst h3
    have ey' : ys = (accD ++ [d]) ++ zs := by rw [ey, f3, List.append_assoc]; rfl
    refine ⟨?_, ρ', mu, sc, hR3, ?_⟩
    · have := rc.length
      rw [ey'] at hz
      simp only [List.length_append, List.length_cons, List.length_nil] at hz
      omega
    · show PX C.X.K C.ca C.L (RD C.X.K) mu sc H2 (ev CT eE ρ' sc) _ _
      rw [h2]
      intro m4 H4 w t4 S4 rw4
      refine ⟨xs.length - (i + 1), by omega, rfl, hlt, m4, s2, accD ++ [d], zs, tc2.trans t4, ⟨S4, ?_, ?_, fun j d' hj => ?_⟩, ?_, (mc.trans lt2.mv).trans t4.later.mv, f2, ey'⟩
      · exact Nat.le_trans hR3.base t4.slen
      · rw [ho.1]
        exact hR2.len
      · obtain ⟨v', h4, h5⟩ := hR2.env j d' hj
        refine ⟨v', ?_, RD.later t4.later d' v' h5⟩
        rw [ho.2 j fun z => (wipeE_some hj).2 (hsub j z)]
        exact h4
      · exact RDs.append (RDs.later t4.later _ _ (RDs.later lt2 _ _ rc)) ⟨w, [], rfl, rw4, rfl⟩
  · have ei : i = xs.length := by omega
    subst ei
    refine .inl ⟨q2, ?_⟩
    rw [List.drop_length] at ec
    obtain ⟨c1, c2⟩ := compL_nil ec
    subst c1 c2
    rw [List.append_nil] at ey
    subst ey
    exact hD mu Hc σc acc (t1.trans tc) Rc.sr rc
/-- plain statements ahead of the loop -/
def isPl : S → Bool
  | .set .. => true
  | .expr .. => true
  | _ => false
def Tx0 : Tx := ⟨fun _ => false, fun _ => ""⟩
/-- the loop that hands out -/
def chkE (T : Tb) (N : List Str) (sc : Scope) (a b : S) (st : Stmt) : Bool :=
  match a, b, st with
  | .ret (.comp own tg elt it (.cbl true)), .skip, .For t x [.Expr (.Yield (some y) _) _] [] _ => (slots tg).all (fun i => own.contains i) && chki T N it sc t x && chkT N true tg sc t && !(isSet x) && chk T N elt sc y
  | _, _, _ => false
theorem chkE_ok {a b : S} {st : Stmt} (h : chkE T N sc a b st = true) : ∃ own tg elt it t x y yp ep pos, a = .ret (.comp own tg elt it (.cbl true)) ∧ b = .skip ∧ st = .For t x [.Expr (.Yield (some y) yp) ep] [] pos ∧
    ((slots tg).all fun i => own.contains i) = true ∧ chki T N it sc t x = true ∧ chkT N true tg sc t = true ∧ isSet x = false ∧ chk T N elt sc y = true := by
  unfold chkE at h
  split at h
  · simp only [Bool.and_eq_true] at h
    obtain ⟨⟨⟨⟨h1, h2⟩, h3⟩, h4⟩, h5⟩ := h
    exact ⟨_, _, _, _, _, _, _, _, _, _, rfl, rfl, rfl, h1, h2, h3, by simpa using h4, h5⟩
  · cases h
/-- a generator def's body: plain statements, then for .. in ..: yield .. -/
def chkG (T : Tb) (N : List Str) : S → Scope → List Stmt → Bool
  | .seq a b, sc, st :: r => match r with
    | [] => chkE T N sc a b st
    | _ :: _ => isPl a && chk1 T Tx0 N a sc st && chkG T N b sc r
  | _, _, _ => false
theorem gen_body (G : GOk T CT C) (hx : ∀ e s, ¬ C.X.xe e s) (hf : ∀ n, C.X.fn n = true) (hk : C.X.env.scope.kind = .function) (hN : C.X.N = N) (hs : C.X.env.scope = sc) (hco : C.X.env.scope.isCoroutine = false) (hin : interactive C.X.env = false) :
    ∀ (b : S) (sts : List Stmt), chkG T N b sc sts = true → ∃ t, GSx C.X sts t ∧ ∀ (D' : List V → L2.St → Hp → Prop) (ρ : Env) (m : Pl) (s : Sto) (σ : L2.St) (H : Hp) (d : D) (s' : Sto), Rel C m s H ρ σ → ex CT C.L b ρ s = some (.ret d s') →
      (∀ ys, d = .lst ys → ∀ m' H' σ' out, Step C.L m s H m' s' H' → SRel C.X.K m' s' H' → RDs C.X.K m' H' ys out → D' out σ' H') → t D' [] σ H := by
  have GSC : GS T Tx0 CT C := ⟨G, fun x s z => absurd z (hx x s), hf, hk, fun _ z => nomatch (show false = true from z)⟩
  intro b
  induction b with
  | seq a b _ ihb =>
    intro sts h
    match sts, h with
    | [st], h =>
      have h : chkE T N sc a b st = true := h
      obtain ⟨own, tg, elt, it, t, x, y, yp, ep, pos, rfl, rfl, rfl, h1, h2, h3, h4, h5⟩ := chkE_ok h
      refine ⟨_, gx_for G.calm hx ((chd it).si C sc t x G hN hs h2) ((tg_ok tg).tg C true sc t G.calm G.nd hN hs (fun _ => hf) h3) ((chd elt).se C sc y G hN hs h5) (fun v => by cases x <;> first | rfl | cases h4) hco hin, fun D' ρ m s σ H d s' hR he hD => ?_⟩
      have hsub : ∀ i ∈ slots tg, i ∈ own := fun i hi => List.contains_iff_mem.mp (List.all_eq_true.mp h1 i hi)
      simp only [ex] at he
      match e : ev CT (.comp own tg elt it (.cbl true)) ρ s, he with
      | some (.ok d1 s1), he =>
        cases he
        have hl : ∃ ys, d = .lst ys := by
          rw [ev] at e
          split at e
          · split at e
            · split at e
              · cases e
                exact ⟨_, rfl⟩
              · cases e
            · cases e
          · cases e
        obtain ⟨ys, rfl⟩ := hl
        exact gx_use hsub hR e (hD ys rfl)
    | st :: st2 :: r, h =>
      have h : (isPl a && chk1 T Tx0 N a sc st && chkG T N b sc (st2 :: r)) = true := h
      simp only [Bool.and_eq_true] at h
      obtain ⟨⟨h1, h2⟩, h3⟩ := h
      obtain ⟨t, t1, t2⟩ := ihb (st2 :: r) h3
      refine ⟨_, gx_cons hx ((chds a).one C sc st GSC hN hs h2) t1, fun D' ρ m s σ H d s' hR he hD => ?_⟩
      refine ⟨ρ, m, s, hR, ?_⟩
      have nx : ∃ ρ1 s1, ex CT C.L a ρ s = some (.nx ρ1 s1) ∧ ex CT C.L b ρ1 s1 = some (.ret d s') := by
        simp only [ex] at he
        match e : ex CT C.L a ρ s, he with
        | some (.nx ρ1 s1), he => exact ⟨ρ1, s1, rfl, he⟩
        | some (.ret d1 s1), he =>
          cases a with
          | set i e1 =>
            simp only [ex] at e
            match e3 : ev CT e1 ρ s, e with
            | some (.ok _ _), e => cases e
            | some (.exc _ _), e => cases e
          | expr e1 =>
            simp only [ex] at e
            match e3 : ev CT e1 ρ s, e with
            | some (.ok _ _), e => cases e
            | some (.exc _ _), e => cases e
          | _ => cases h1
      obtain ⟨ρ1, s1, e1, e2⟩ := nx
      rw [e1]
      intro σ' m' H' t' R'
      exact t2 D' ρ1 m' s1 σ' H' d s' R' e2 fun ys hy m2 H2 σ2 out st => hD ys hy m2 H2 σ2 out (t'.trans st)
  | _ =>
    intro sts h
    cases sts <;> exact (Bool.false_ne_true h).elim
end
end EV

set_option maxHeartbeats 2000000
/-! list comprehensions inside an except suite -/
namespace HotX
open PySem PySem.Spec PyProof.Rows
section
variable {prog : Program} {w : World} {A : Around} {E : Value → Shared → Prop} {s : Shared}
theorem pyNext_list_end_hot {it l x1 : Addr} {i : Nat} {items : Array Value} {Q : Option Value → Shared → Prop} (hot : HotAt A x1 s.heap) (hne : x1 ≠ it)
    (hit : s.heap.IsListIter it l i) (hl : s.heap.IsList l items) (hx : items[i]? = none)
    (hQ : ∀ h', Heap.ExtBut it s.heap h' → Q none { s with heap := h' }) : wpAny (model prog w) A (pyNext (.ref it)) Q E s := by
  obtain ⟨o, ho, hc, hd⟩ := id hit
  obtain ⟨ol, hol, _, nl, hdl⟩ := hl
  obtain ⟨hh, o1, vs1, h1, d1, c1⟩ := hot
  unfold pyNext
  refine wpAny_bind (wpAny_attempt (wpAny_callSpecial?_slot (name := Str.ofString "__next__") hit.typeIs slot_listiter_next
    (wpAny_call_entry slot_listiter_next hit.typeIs entry_listiter_next ?_ (args_listiter_next _))))
  show wpAny _ _ (field (.ref it) 0 >>= _) _ _ s
  refine wpAny_bind (wpAny_field ho hd (x := .ref l) rfl ?_)
  show wpAny _ _ (if (Value.ref l == Value.none) = true then _ else _) _ _ s
  rw [if_neg (show ¬ ((Value.ref l == Value.none) = true) from Bool.false_ne_true)]
  show wpAny _ _ (field (.ref it) 1 >>= _) _ _ s
  refine wpAny_bind (wpAny_field ho hd (x := .int i 0) rfl ?_)
  show wpAny _ _ (seqItems? (.ref l) >>= _) _ _ s
  refine wpAny_bind (wpAny_seqItems hol hdl ?_)
  simp only [Int.toNat_natCast, hx]
  refine wpAny_bind (wpAny_rule (wpAny_bind (wpAny_setField ho hd (by simp) ?_)))
  show wpAny _ _ (newExc (.type "StopIteration") [] >>= _) _ _ _
  refine wpAny_bind ?_
  simp only [newExc, newTuple]
  refine wpAny_bind (wpAny_newObj_type ?_ (by size_fits))
  refine wpAny_bind (m := firstArgMember _ _) (wpAny_of_eq (a := Value.none) (by first | rfl | (simp only [firstArgMember]; rfl)) ?_)
  refine wpAny_newObj_type ?_ (by size_fits)
  have h1' := (Heap.get?_update_other s.heap (Obj.mapFields (·.setIfInBounds 0 .none)) hne.symm).trans h1
  refine raiseNew_hot ⟨hh, o1, vs1, Heap.get?_push_of_some _ (Heap.get?_push_of_some _ h1'), d1, c1⟩ (Nat.ne_of_lt (Heap.lt_size (Heap.get?_push_of_some _ h1'))) (Heap.get?_push_size _ rfl) rfl (by first | (simp; done) | (simp; omega) | (simp only [Array.size_append]; simp; omega)) ?_
  refine wpAny_bind (wpAny_isInstance (T := "StopIteration") (b := true) ⟨_, Heap.get?_update_self _ (Heap.get?_push_size _ rfl) rfl, rfl⟩ isSubtype_stop ?_)
  refine wpAny_pure (hQ _ fun b ob hb e => ?_)
  have e' := (Heap.get?_update_other s.heap (Obj.mapFields (·.setIfInBounds 0 .none)) hb.symm).trans e
  rw [Heap.get?_update_other _ _ (Nat.ne_of_gt (Heap.lt_size (Heap.get?_push_of_some _ e')))]
  exact Heap.get?_push_of_some _ (Heap.get?_push_of_some _ e')
end
end HotX
namespace L2
open PySem PySem.Spec PyProof.Rows
/-- X's handled exception stands at a -/
structure HotC (X : Cx) (a : Addr) (oe : Obj) : Prop where
  hd : X.A.handled = some (.ref a)
  get : ∀ {pins : List (Addr × Obj)} {σ : St} {H : Hp} {s : Shared}, Inv X pins σ H s → s.heap.get? a = some oe
/-- a walk over a list in such a context -/
structure Walk (P : Program) (w : World) (K : PySem.W.Frag) (l it : Addr) (a : Addr) (oe : Obj) (tg : Expr) : Prop where
  item : ∀ {X : Cx}, X.prog = P → X.w = w → X.K = K → ∀ {i : Nat} {pins : List (Addr × Obj)} {s : Shared} {σ : St} {H : Hp} {E : Value → Shared → Prop} {xs : List V} {x : V}, Inv X pins σ H s → FpOk X pins H it → s.heap.IsListIter it l i → SqL K H l xs → xs[i]? = some x →
    wpAny (model P w) X.A (pyNext (.ref it)) (fun r s1 => ∃ u, r = some u ∧ wpAny (model P w) X.A (letOwnedTupleGo tg (.ref it) u) (fun _ s2 => Inv X pins σ H s2 ∧ RelV x u ∧ s2.heap.IsListIter it l (i + 1)) E s1) E s
  done : ∀ {X : Cx}, X.prog = P → X.w = w → X.K = K → HotC X a oe → ∀ {i : Nat} {pins : List (Addr × Obj)} {s : Shared} {σ : St} {H : Hp} {E : Value → Shared → Prop} {xs : List V}, Inv X pins σ H s → FpOk X pins H it → s.heap.IsListIter it l i → SqL K H l xs → xs.length ≤ i →
    wpAny (model P w) X.A (pyNext (.ref it)) (fun r s1 => r = none ∧ Inv X pins σ H s1) E s
theorem walk_hot {P : Program} {w : World} {K : PySem.W.Frag} {l it a : Addr} {oe : Obj} {tg : Expr} {vs : Array Value} (hd : oe.data = .fields vs) (hc : vs[2]? = some .none) (hne : a ≠ it) : Walk P w K l it a oe tg where
  item := by
    intro X hP hw hK i pins s σ H E xs x I hf st hq hx
    subst hP hw hK
    obtain ⟨f0, f1, f2, f3, f4, f5⟩ := hf
    obtain ⟨its, rv, p, _⟩ := I.list hq
    obtain ⟨u, hu, ru⟩ := rv.get hx
    refine wpAny_pyNext_list_item (x := u) st p.isList (by simpa using hu) fun h' st' sb => ?_
    have J : Inv X pins σ H { s with heap := h' } := I.turned (t' := s.toks) (fun b o hb e => (sb.2 b hb).trans e) f0 f1 f3 f4 f5
    obtain ⟨o, eo, co, dd⟩ := id st'
    exact ⟨u, rfl, go_of (s := { s with heap := h' }) eo co dd (by decide) ⟨J, ru, st'⟩⟩
  done := by
    intro X hP hw hK hot i pins s σ H E xs I hf st hq hx
    subst hP hw hK
    obtain ⟨f0, f1, f2, f3, f4, f5⟩ := hf
    obtain ⟨its, rv, p, _⟩ := I.list hq
    have hl := rv.length
    exact HotX.pyNext_list_end_hot ⟨hot.hd, oe, vs, hot.get I, hd, hc⟩ hne st p.isList (by simp; omega) fun h' eb => ⟨rfl, I.turned (t' := s.toks) (fun b o hb e => eb b o hb e) f0 f1 f3 f4 f5⟩
section
variable {X : Cx}
theorem pe_lcH {elt tg iter : Expr} {ifs : List Expr} {scope : Scope} {own : List (Str × Nat)} {pos : Pos} {tl : TE} {g : TG} {tt : TT} {te : TE} {a : Addr} {oe : Obj} {vs0 : Array Value} (hpn : (a, oe) ∈ X.pn) (hhd : X.A.handled = some (.ref a)) (hod : oe.data = .fields vs0) (hoc : vs0[2]? = some .none)
    (hN : X.N.Nodup) (hl : PE X iter tl) (ok : BlkOk X.N X.env.scope scope own)
    (hg : ∀ (s : Shared) (H : Hp) (C : Addr) (cl : List (Str × Addr)) (fp : List Addr), HotC (X.blk s H scope (compEnvC scope cl C X.env) fp) a oe → PG (X.blk s H scope (compEnvC scope cl C X.env) fp) tg g) (ht : ∀ (s : Shared) (H : Hp) (C : Addr) (cl : List (Str × Addr)) (fp : List Addr), PTs (X.blk s H scope (compEnvC scope cl C X.env) fp) ifs tt)
    (he : ∀ (s : Shared) (H : Hp) (C : Addr) (cl : List (Str × Addr)) (fp : List Addr), PE (X.blk s H scope (compEnvC scope cl C X.env) fp) elt te) (hs : ∀ x, foldedSetIterable iter X.env x = pure x) :
    PE X (.ListComp elt [⟨tg, iter, ifs, 0⟩] scope pos) (tLc (iList X.K tl) g tt te (own.map (·.2))) := by
  refine ⟨fun pins s σ H Q I h => ?_⟩
  rw [eval_ListComp]
  have hfree : ∀ y ∈ scope.names, y.2 = .free → ∃ c, X.env.cells.lookup y.1 = some c := fun y hy e => (ok.free y hy e).elim (fun k => I.ok.has _ (.inl k)) fun k => I.ok.has _ (.inr k)
  refine wpAny_comprehension_free (use := none) rfl hs (closure_ok hfree) ok.kind (fun y hy e => by rw [ok.uniq y hy, e]) (thn (hl.run pins s σ H _ I h) fun xv s1 ⟨v, H1, I1, r1, q1⟩ => ?_)
  obtain ⟨l, rfl, ⟨xs, hq⟩, q⟩ := q1
  cases r1
  obtain ⟨its, rv, p, hz⟩ := I1.list hq
  refine wpAny_pyIter_list p.isList ?_
  suffices key : ∀ (it : Addr) (s2 : Shared), Inv X pins σ H1 s2 → s2.heap.IsListIter it l 0 → FpOk X pins H1 it → it < s2.heap.objs.size → wpAny (model X.prog X.w) X.A (newList []) (fun acc s₃ => wpAny (model X.prog X.w) X.A (newFunctionEnv scope X.env.globals (cloFrom X.env.cells scope.names []) [] X.env.qual none Value.none (some X.env)) (fun cenv s₄ =>
      codeAny (model X.prog X.w) X.A (Code.compStart (elt.ListComp [⟨tg, iter, ifs, 0⟩] scope pos) 0 (Value.ref it) acc { cenv with scope := relabel scope X.env }) (compPost (model X.prog X.w) X.A X.xe none (EP X pins σ Q) acc cenv.locals) s₄) X.xe s₃) X.xe s2 from
    key _ { s1 with heap := s1.heap.push { cls := .type "list_iterator", data := .fields #[.ref l, .int 0 0] } } (I1.kept (t' := s1.toks) fun b o e => Heap.get?_push_of_some _ e) ⟨_, Heap.get?_push_size _ rfl, rfl, rfl⟩ (I1.fpOk (Nat.le_refl _) (I1.hok.fresh (Nat.le_refl _))) (by rw [Heap.size_push]; exact Nat.lt_succ_self _)
  intro it s2 I2 st2 f2 hlt
  have hai : a ≠ it := f2.2.2.2.2.2 (a, oe) (List.mem_append_left _ hpn)
  have wk : Walk X.prog X.w X.K l it a oe tg := walk_hot hod hoc hai
  refine wpAny_newObj_type (newEnv_comp ?_) (by show 0 ≤ sizeLine; decide)
  generalize hD : s2.heap.objs.size = D
  have hDn : H1 D = none := I2.hok.fresh (Nat.le_of_eq hD)
  obtain ⟨W, ⟨m0, w0⟩, turn⟩ := q D hDn
  generalize hs3 : ({ s2 with heap := s2.heap.push { cls := .type "list", data := .seq ([] : List Value).toArray } } : Shared) = s3
  have h3 : s3.heap = s2.heap.push { cls := .type "list", data := .seq ([] : List Value).toArray } := by rw [← hs3]
  have I3 : Inv X pins σ (upd H1 D (.lst [])) s3 := by
    rw [← hs3]
    refine I2.laid (t' := s2.toks) (fun b o e => Heap.get?_push_of_some _ e) (Nat.le_of_eq hD) ⟨Nat.zero_le _, [], 0, .nil, ?_⟩
    rw [← hD]
    exact Heap.get?_push_size _ rfl
  have hne : it ≠ D := by rw [← hD]; exact Nat.ne_of_lt hlt
  have f3 : ∀ b ∈ [it], FpOk X pins (upd H1 D (.lst [])) b ∧ b < s3.heap.objs.size := fun b hb => by
    rw [List.mem_singleton.mp hb]
    refine ⟨⟨by rw [upd_ne hne]; exact f2.1, f2.2⟩, by rw [h3, Heap.size_push]; exact Nat.lt_succ_of_lt hlt⟩
  have st3 : s3.heap.IsListIter it l 0 := st2.at fun o e => by rw [h3]; exact Heap.get?_push_of_some _ e
  have hpin := I3.pin (a, oe) (List.mem_append_left _ hpn)
  have I4 := block_start I3 ok hN f3
  have pg := hg s3 (upd H1 D (.lst [])) s3.heap.objs.size (cellsFrom (s3.heap.objs.size + 1) scope.names (cloFrom X.env.cells scope.names [])) [it]
  have pt := ht s3 (upd H1 D (.lst [])) s3.heap.objs.size (cellsFrom (s3.heap.objs.size + 1) scope.names (cloFrom X.env.cells scope.names [])) [it]
  have pe := he s3 (upd H1 D (.lst [])) s3.heap.objs.size (cellsFrom (s3.heap.objs.size + 1) scope.names (cloFrom X.env.cells scope.names [])) [it]
  have goal : ∀ ce : Env, ce = compEnvC scope (cellsFrom (s3.heap.objs.size + 1) scope.names (cloFrom X.env.cells scope.names [])) s3.heap.objs.size X.env → ∀ s4 : Shared, s4 = { s3 with heap := pushCells (s3.heap.push { cls := .type "dict", data := .dict #[] }) scope.names } →
      codeAny (model X.prog X.w) X.A (.compStart (.ListComp elt [⟨tg, iter, ifs, 0⟩] scope pos) 0 (.ref it) (.ref D) ce) (compPost (model X.prog X.w) X.A X.xe none (EP X pins σ Q) (.ref D) s3.heap.objs.size) s4 := by
    intro ce hce s4 hs4
    rw [← hce] at pg pt pe I4
    rw [← hs4] at I4
    have cL : ce.locals = s3.heap.objs.size := by rw [hce] <;> rfl
    have st4 : s4.heap.IsListIter it l 0 := st3.at fun o e => by rw [hs4]; exact pushCells_keeps _ _ _ _ (Heap.get?_push_of_some _ e)
    have hot : HotC (X.blk s3 (upd H1 D (.lst [])) scope ce [it]) a oe := ⟨hhd, fun {pins' σ' H' s'} J => by
      refine J.base.keep a oe hpin.1 hpin.2.1 (fun z => ?_) (fun z => hai (List.mem_singleton.mp z))
      rcases List.mem_cons.mp (I3.stkSub a z) with e | e
      · exact hpin.2.2.1 e
      · exact hpin.2.2.2.1 e⟩
    have stat : ∀ {σ' : St} {H' : Hp} {s' : Shared}, Inv (X.blk s3 (upd H1 D (.lst [])) scope ce [it]) [] σ' H' s' → H' it = none → FpOk (X.blk s3 (upd H1 D (.lst [])) scope ce [it]) [] H' it := fun {σ' H' s'} J hn =>
      ⟨hn, (J.ok.exf it (List.mem_singleton.mpr rfl)).1, J.ok.exfs it (List.mem_singleton.mpr rfl), .inl (List.mem_singleton.mpr rfl), fun x c e => (J.ok.exf it (List.mem_singleton.mpr rfl)).2 x c e, fun p hp => absurd (show p ∈ ([] : List (Addr × Obj)) ++ [] from hp) (by simp)⟩
    have loop : codeAny (model X.prog X.w) X.A (.compLoop (.ListComp elt [⟨tg, iter, ifs, 0⟩] scope pos) 0 (.ref it) (.ref D) ce) (compPost (model X.prog X.w) X.A X.xe none (EP X pins σ Q) (.ref D) s3.heap.objs.size) s4 := by
      have pg := pg hot
      refine compLoop_any (fun n s' => ∃ i H', Inv (X.blk s3 (upd H1 D (.lst [])) scope ce [it]) [] (wipe σ (own.map (·.2))) H' s' ∧ s'.heap.IsListIter it l i ∧ H' it = none ∧ W i n H') ?_ m0 ⟨0, _, I4, st4, by rw [upd_ne hne]; exact f2.1, w0⟩
      rintro n s5 ⟨i, H5, I5, st5, n5, w5⟩
      rcases turn i n H5 w5 with ⟨⟨ys, hys, hle⟩, qq⟩ | ⟨⟨ys, x, hys, hx⟩, Nx, hNx, step⟩
      rotate_left
      · refine thnF (wk.item (X := X.blk s3 (upd H1 D (.lst [])) scope ce [it]) (E := fun _ _ => False) rfl rfl rfl I5 (stat I5 n5) st5 hys hx) fun r s6 ⟨u, hr, h6⟩ => ?_
        subst hr
        refine thnF h6 fun _ s7 ⟨I7, r7, st7⟩ => ?_
        have one : ∀ b ∈ [it], FpOk (X.blk s3 (upd H1 D (.lst [])) scope ce [it]) [] H5 b := fun b hb => by
          rw [List.mem_singleton.mp hb]
          exact stat I7 n5
        have two : ∀ b ∈ [it], ∃ o, s7.heap.get? b = some o ∧ ∀ v, o.data ≠ .cell v := fun b hb => by
          rw [List.mem_singleton.mp hb]
          obtain ⟨o, eo, co, dd⟩ := id st7
          exact ⟨o, eo, fun v z => by rw [dd] at z; cases z⟩
        have I7' := I7.pinned one two
        refine thnF (pg.run _ s7 _ H5 x u _ I7' r7 (step x H5 ⟨rfl, fun zs hz => by rw [I5.list_inj hz hys]; exact hx⟩)) fun _ s8 ⟨σ8, H8, I8, hw8, q8⟩ => ?_
        refine thnF (pt.run _ s8 σ8 H8 _ I8 q8) fun b s9 ⟨H9, I9, q9⟩ => ?_
        have fin : ∀ {s' : Shared} {H' : Hp}, Inv (X.blk s3 (upd H1 D (.lst [])) scope ce [it]) ([] ++ pinsAt [it] s7.heap) σ8 H' s' → Nx H' → ∃ m, m < n ∧ ∃ i H', Inv (X.blk s3 (upd H1 D (.lst [])) scope ce [it]) [] (wipe σ (own.map (·.2))) H' s' ∧ s'.heap.IsListIter it l i ∧ H' it = none ∧ W i m H' := fun {s' H'} J nx => by
          obtain ⟨m', hm, w'⟩ := hNx H' nx
          obtain ⟨o, eo, _, _⟩ := id st7
          have hp := J.pin (it, o) (List.mem_append_right _ (List.mem_append_right _ (mem_pinsAt (List.mem_singleton.mpr rfl) eo)))
          have hlen : (wipe σ (own.map (·.2))).length = σ8.length := by rw [← hw8, wipe_length]
          refine ⟨m', hm, i + 1, H', (J.unpinned (pins := [])).weak hlen (fun j v e => ?_), st7.at fun o' e' => ?_, hp.2.1, w'⟩
          · rw [← hw8] at e
            exact (wipe_some e).1
          · rw [eo] at e'
            cases e'
            exact hp.1
        cases b with
        | false =>
          simp only [Bool.false_eq_true, if_false] at q9 ⊢
          exact fin I9 q9
        | true =>
          simp only [if_true] at q9 ⊢
          refine thnF (pe.run _ s9 σ8 H9 _ I9 q9) fun z s10 ⟨yv, H10, I10, r10, acc, hD10, hz10, nx⟩ => ?_
          exact app_ok (X := X.blk s3 (upd H1 D (.lst [])) scope ce [it]) I10 hD10 hz10 r10 fun s11 I11 => fin I11 nx
      · refine thnF (wk.done (X := X.blk s3 (upd H1 D (.lst [])) scope ce [it]) (E := fun _ _ => False) rfl rfl rfl hot I5 (stat I5 n5) st5 hys hle) fun r s6 ⟨hr, I6⟩ => ?_
        subst hr
        have I7 : Inv X pins σ H5 s6 := I3.call' (ch := [it]) I6.os I6.base I6.hok I6.bare fun b hb => ⟨(f3 b hb).1.2.2.2.1, (f3 b hb).1.2.1, (f3 b hb).1.2.2.2.2.1, (f3 b hb).1.2.2.2.2.2⟩
        have nC : H5 s3.heap.objs.size = none := by
          have z : H5 ce.locals = none := I6.free
          rw [cL] at z
          exact z
        obtain ⟨m, hnm, _⟩ := I6.loc
        have hnm : s6.heap.Ns ce.locals m := hnm
        rw [cL] at hnm
        obtain ⟨g0, g1, g2, g3, g4, g5⟩ := I3.fpOk (H' := H5) (Nat.le_refl _) nC
        exact ⟨m, hnm, fun h'' sb => ⟨.ref D, H5, I7.turned (t' := s6.toks) (fun b o hb e => (sb.2 b hb).trans e) g0 g1 g3 g4 g5, rfl, qq⟩⟩
    exact codeAny_compStart_list loop (wpAny_pyIter_listiter st4 loop)
  exact goal _ rfl _ rfl
end
end L2

set_option maxHeartbeats 2000000
/-! a tuple taken apart inside an except suite -/
namespace HotX
open PySem PySem.Spec PyProof.Rows
section
variable {prog : Program} {w : World} {A : Around} {E : Value → Shared → Prop} {s : Shared}
theorem pyNext_tuple_end_hot {it t x1 : Addr} {i : Nat} {items : Array Value} {Q : Option Value → Shared → Prop} (hot : HotAt A x1 s.heap) (hne : x1 ≠ it)
    (hit : IsTupIter s.heap it t i) (ht : IsTup s.heap t items) (hx : items[i]? = none)
    (hQ : ∀ h', Heap.ExtBut it s.heap h' → Q none { s with heap := h' }) : wpAny (model prog w) A (pyNext (.ref it)) Q E s := by
  obtain ⟨o, ho, hc, hd⟩ := id hit
  obtain ⟨ol, hol, _, nl, hdl⟩ := ht
  obtain ⟨hh, o1, vs1, h1, d1, c1⟩ := hot
  unfold pyNext
  refine wpAny_bind (wpAny_attempt (wpAny_callSpecial?_slot (name := Str.ofString "__next__") hit.typeIs slot_tupleiter_next
    (wpAny_call_entry slot_tupleiter_next hit.typeIs entry_tupleiter_next ?_ (args_tupleiter_next _))))
  show wpAny _ _ (field (.ref it) 0 >>= _) _ _ s
  refine wpAny_bind (wpAny_field ho hd (x := .ref t) rfl ?_)
  show wpAny _ _ (if (Value.ref t == Value.none) = true then _ else _) _ _ s
  rw [if_neg (show ¬ ((Value.ref t == Value.none) = true) from Bool.false_ne_true)]
  show wpAny _ _ (field (.ref it) 1 >>= _) _ _ s
  refine wpAny_bind (wpAny_field ho hd (x := .int i 0) rfl ?_)
  show wpAny _ _ (seqItems? (.ref t) >>= _) _ _ s
  refine wpAny_bind (wpAny_seqItems hol hdl ?_)
  simp only [Int.toNat_natCast, hx]
  refine wpAny_bind (wpAny_rule (wpAny_bind (wpAny_setField ho hd (by simp) ?_)))
  show wpAny _ _ (newExc (.type "StopIteration") [] >>= _) _ _ _
  refine wpAny_bind ?_
  simp only [newExc, newTuple]
  refine wpAny_bind (wpAny_newObj_type ?_ (by size_fits))
  refine wpAny_bind (m := firstArgMember _ _) (wpAny_of_eq (a := Value.none) (by first | rfl | (simp only [firstArgMember]; rfl)) ?_)
  refine wpAny_newObj_type ?_ (by size_fits)
  have h1' := (Heap.get?_update_other s.heap (Obj.mapFields (·.setIfInBounds 0 .none)) hne.symm).trans h1
  refine raiseNew_hot ⟨hh, o1, vs1, Heap.get?_push_of_some _ (Heap.get?_push_of_some _ h1'), d1, c1⟩ (Nat.ne_of_lt (Heap.lt_size (Heap.get?_push_of_some _ h1'))) (Heap.get?_push_size _ rfl) rfl (by first | (simp; done) | (simp; omega) | (simp only [Array.size_append]; simp; omega)) ?_
  refine wpAny_bind (wpAny_isInstance (T := "StopIteration") (b := true) ⟨_, Heap.get?_update_self _ (Heap.get?_push_size _ rfl) rfl, rfl⟩ isSubtype_stop ?_)
  refine wpAny_pure (hQ _ fun b ob hb e => ?_)
  have e' := (Heap.get?_update_other s.heap (Obj.mapFields (·.setIfInBounds 0 .none)) hb.symm).trans e
  rw [Heap.get?_update_other _ _ (Nat.ne_of_gt (Heap.lt_size (Heap.get?_push_of_some _ e')))]
  exact Heap.get?_push_of_some _ (Heap.get?_push_of_some _ e')
theorem assign_tup_hot {env : Env} {elts : List Expr} {k : Nat} {pos : Pos} {t x1 : Addr} {items : Array Value} {Q : Unit → Shared → Prop} (hot : HotAt A x1 s.heap) (ht : IsTup s.heap t items)
    (hn : (assignEach elts env).length = items.size) (hstar : (assignEach elts env).findIdx? (·.1) = none)
    (h : ∀ h', Heap.ExtBut s.heap.objs.size s.heap h' → wpAny (model prog w) A (assignInOrder ((assignEach elts env).map (·.2)) items.toList) Q E { s with heap := h' }) :
    wpAny (model prog w) A (assign (.Tuple elts k pos) env (.ref t)) Q E s := by
  rw [assign_Tuple]
  refine wpAny_bind (wpAny_standAt ?_)
  unfold unpack
  rw [hn, hstar]
  refine wpAny_bind (wpAny_holding ?_)
  have hlt : t ≠ s.heap.objs.size := by obtain ⟨o, ho, _⟩ := ht; exact Nat.ne_of_lt (Heap.lt_size ho)
  obtain ⟨hh, o1, vs1, h1, d1, c1⟩ := hot
  have hx1 : x1 ≠ s.heap.objs.size := Nat.ne_of_lt (Heap.lt_size h1)
  unfold unpackItems
  refine wpAny_bind ?_
  unfold notIterableAtAll
  refine wpAny_bind (wpAny_specialOf ht.typeIs slot_tuple_iter.lookup (wpAny_pure ?_))
  simp only [Bool.false_eq_true, if_false]
  refine wpAny_bind (wpAny_holding (iter_tuple ht ?_))
  refine wpAny_bind (wpAny_holding (draw_tuple hlt items.size 0 _ _ ⟨_, Heap.get?_push_size _ rfl, rfl, rfl⟩ (ht.push _) (by omega) fun h2 hit2 hs2 => ?_))
  have hall : (items.toList.drop 0).take items.size = items.toList := by
    rw [List.drop_zero]
    exact List.take_of_length_le (by simp)
  rw [hall, if_neg (by simp)]
  have hot2 : HotAt A x1 h2 := ⟨hh, o1, vs1, hs2.extBut x1 o1 hx1 (Heap.get?_push_of_some _ h1), d1, c1⟩
  refine wpAny_bind (wpAny_holding (pyNext_tuple_end_hot hot2 hx1 hit2 ((ht.push _).extBut hs2.extBut hlt) (by simp) fun h3 he3 => ?_))
  simp only [Option.isSome_none, Bool.false_eq_true, if_false]
  exact wpAny_pure (h h3 fun b o hb e => he3 b o hb (hs2.extBut b o hb (Heap.get?_push_of_some _ e)))
theorem assign_lst_hot {env : Env} {elts : List Expr} {k : Nat} {pos : Pos} {t x1 : Addr} {items : Array Value} {Q : Unit → Shared → Prop} (hot : HotAt A x1 s.heap) (ht : s.heap.IsList t items)
    (hn : (assignEach elts env).length = items.size) (hstar : (assignEach elts env).findIdx? (·.1) = none)
    (h : ∀ h', Heap.ExtBut s.heap.objs.size s.heap h' → wpAny (model prog w) A (assignInOrder ((assignEach elts env).map (·.2)) items.toList) Q E { s with heap := h' }) :
    wpAny (model prog w) A (assign (.Tuple elts k pos) env (.ref t)) Q E s := by
  rw [assign_Tuple]
  refine wpAny_bind (wpAny_standAt ?_)
  unfold unpack
  rw [hn, hstar]
  refine wpAny_bind (wpAny_holding ?_)
  have hlt : t ≠ s.heap.objs.size := by obtain ⟨o, ho, _⟩ := ht; exact Nat.ne_of_lt (Heap.lt_size ho)
  obtain ⟨hh, o1, vs1, h1, d1, c1⟩ := hot
  have hx1 : x1 ≠ s.heap.objs.size := Nat.ne_of_lt (Heap.lt_size h1)
  unfold unpackItems
  refine wpAny_bind ?_
  unfold notIterableAtAll
  refine wpAny_bind (wpAny_specialOf ht.typeIs slot_list_iter.lookup (wpAny_pure ?_))
  simp only [Bool.false_eq_true, if_false]
  refine wpAny_bind (wpAny_holding (wpAny_pyIter_list ht ?_))
  refine wpAny_bind (wpAny_holding (PySem.W.kun_draw hlt items.size 0 _ _ ⟨_, Heap.get?_push_size _ rfl, rfl, rfl⟩ (ht.push _) (by omega) fun h2 hit2 hs2 => ?_))
  have hall : (items.toList.drop 0).take items.size = items.toList := by
    rw [List.drop_zero]
    exact List.take_of_length_le (by simp)
  rw [hall, if_neg (by simp)]
  have hot2 : HotAt A x1 h2 := ⟨hh, o1, vs1, hs2.extBut x1 o1 hx1 (Heap.get?_push_of_some _ h1), d1, c1⟩
  refine wpAny_bind (wpAny_holding (pyNext_list_end_hot hot2 hx1 hit2 ((ht.push _).extBut hs2.extBut hlt) (by simp) fun h3 he3 => ?_))
  simp only [Option.isSome_none, Bool.false_eq_true, if_false]
  exact wpAny_pure (h h3 fun b o hb e => he3 b o hb (hs2.extBut b o hb (Heap.get?_push_of_some _ e)))
end
end HotX
namespace L2
open PySem PySem.Spec PyProof.Rows
theorem pg_tupH {X : Cx} {a : Addr} {oe : Obj} {vs : Array Value} {es : List Expr} {k : Nat} {pos : Pos} {t : TGs} {n : Nat} (hot : HotC X a oe) (hd : oe.data = .fields vs) (hc : vs[2]? = some .none) (h : PGs X es t)
    (hn : (assignEach es X.env).length = n) (hst : (assignEach es X.env).findIdx? (·.1) = none) : PG X (.Tuple es k pos) (gTup X.K n t) := by
  refine ⟨fun pins s σ H v u Q I r hw => ?_⟩
  obtain ⟨l, xs, rfl, hq, hl, hw⟩ := hw
  cases r
  obtain ⟨its, rv, ht, hz⟩ := I.tuple hq
  refine HotX.assign_tup_hot ⟨hot.hd, oe, vs, hot.get I, hd, hc⟩ ht (by simp [hn, ← hl, rv.length]) hst fun h' hx => ?_
  exact h.run pins _ σ H xs _ Q (I.kept (t' := s.toks) fun b o e => hx b o (Nat.ne_of_lt (Heap.lt_size e)) e) (by simpa using rv) hw
theorem pg_unlH {X : Cx} {a : Addr} {oe : Obj} {vs : Array Value} {es : List Expr} {k : Nat} {pos : Pos} {t : TGs} {n : Nat} (hot : HotC X a oe) (hd : oe.data = .fields vs) (hc : vs[2]? = some .none) (h : PGs X es t)
    (hn : (assignEach es X.env).length = n) (hst : (assignEach es X.env).findIdx? (·.1) = none) : PG X (.Tuple es k pos) (gUnl X.K n t) := by
  refine ⟨fun pins s σ H v u Q I r hw => ?_⟩
  obtain ⟨l, xs, rfl, hq, hl, hw⟩ := hw
  cases r
  obtain ⟨its, rv, pl, hz⟩ := I.list hq
  refine HotX.assign_lst_hot ⟨hot.hd, oe, vs, hot.get I, hd, hc⟩ pl.isList (by simp [hn, ← hl, rv.length]) hst fun h' hx => ?_
  exact h.run pins _ σ H xs _ Q (I.kept (t' := s.toks) fun b o e => hx b o (Nat.ne_of_lt (Heap.lt_size e)) e) (by simpa using rv) hw
end L2

set_option maxHeartbeats 4000000
/-! expressions inside an except suite: a checker of its own, and that it is sound -/
namespace EV
open PySem PySem.Spec PyProof.Rows L2
/-- the suite's context: the exception at a, its class at cl -/
structure HotK (C : Ct) (a : Addr) (oe : Obj) (vs : Array Value) (cl : Addr) (nm : Nat → Str) (sub : Nat → Bool) : Prop where
  pn : (a, oe) ∈ C.X.pn
  hd : C.X.A.handled = some (.ref a)
  dat : oe.data = .fields vs
  ctx : vs[2]? = some .none
  nd : C.X.N.Nodup
  isc : CallR C.X (.builtin "isinstance") (rIsE C.X.K cl a)
  mgi : C.X.mg "isinstance" = none
  cls : ∀ k p, Gl C.X (nm k) → ∃ (v : V) (cv : Value), PE C.X (.Name (nm k) p) (tC v) ∧ (∀ u, RelV v u → u = cv) ∧ PySem.W.kitOne C.X.K (.ref cl) cv = some (sub k)
/-- isinstance(e, X) as a call of number k -/
def CTH (a : Addr) (sub : Nat → Bool) : CTb := fun k ds s => match ds with
  | [.adr x] => if x = a then some (.ok (.bl (sub k)) s) else none
  | _ => none
def chkV (N : List Str) (i : Nat) (sc : Scope) : Expr → Bool
  | .Name n _ => decide (N[i]? = some n) && visB sc n && notDbg n
  | _ => false
def chkComp (N : List Str) (own : List Nat) (tg elt it cond : E) (sc : Scope) (x : Expr) : Bool :=
  match tg, elt, it, cond, x with
  | .ttp (.cons (.tnm i1) (.cons (.tnm j1) .nil)), .var i, .itl (.var r), .var j, .ListComp e [⟨.Tuple [.Name n1 _, .Name n2 _] _ _, it', [c], 0⟩] scope _ => chkV N r sc it' && blkC N sc scope (own.filterMap fun i => (N[i]?).map fun n => (n, i)) && decide ((own.filterMap fun i => (N[i]?).map fun n => (n, i)).map (·.2) = own) &&
        (own.contains i1 && own.contains j1) && (decide (N[i1]? = some n1) && locB false (relS scope sc) n1) && (decide (N[j1]? = some n2) && locB false (relS scope sc) n2) && chkV N i (relS scope sc) e && chkV N j (relS scope sc) c
  | _, _, _, _, _ => false
mutual
def chkH (nm : Nat → Str) (N : List Str) : E → Scope → Expr → Bool
  | .var i, sc, x => chkV N i sc x
  | .cstr i, _, x => match x with
    | .Constant (.str j) _ _ => decide (i = j)
    | _ => false
  | .tup es, sc, x => match x with
    | .Tuple xs _ _ => chksH nm N es sc xs
    | _ => false
  | .lst _ es, sc, x => match x with
    | .List xs _ => chksH nm N es sc xs
    | _ => false
  | .bin o a b, sc, x => match x with
    | .BinOp l op r _ => decide (opOf o = op) && chkH nm N a sc l && chkH nm N b sc r
    | _ => false
  | .call k es, sc, x => match es, x with
    | .cons (.var i) .nil, .Call (.Name n _) [.Name y _, .Name z _] [] _ => decide (n = "isinstance") && glB sc n && decide (N[i]? = some y) && visB sc y && notDbg y && decide (nm k = z) && glB sc z
    | _, _ => false
  | .comp own tg elt it cond, sc, x => chkComp N own tg elt it cond sc x
  | _, _, _ => false
def chksH (nm : Nat → Str) (N : List Str) : E → Scope → List Expr → Bool
  | .nil, _, xs => match xs with
    | [] => true
    | _ => false
  | .cons a b, sc, xs => match xs with
    | x :: r => !(isStar x) && chkH nm N a sc x && chksH nm N b sc r
    | _ => false
  | _, _, _ => false
end
section
variable {nm : Nat → Str} {sub : Nat → Bool} {N : List Str} {a cl : Addr} {oe : Obj} {vs : Array Value}
theorem hv_name {C : Ct} {i : Nat} {x : Expr} {sc : Scope} {CT : CTb} (hN : C.X.N = N) (hs : C.X.env.scope = sc) (h : chkV N i sc x = true) : SE C x (ev CT (.var i)) ∧ ∃ n p, x = .Name n p := by
  cases x with
  | Name n p =>
    have h : (decide (N[i]? = some n) && visB sc n && notDbg n) = true := h
    simp only [Bool.and_eq_true] at h
    obtain ⟨⟨h1, h2⟩, h3⟩ := h
    subst hN
    obtain ⟨h4, h5⟩ := notDbg_ok h3
    exact ⟨se_var (of_decide_eq_true h1) (visB_ok hs h2) h4 h5, n, p, rfl⟩
  | _ => exact (Bool.false_ne_true h).elim
/-- the walk over a list, told for what the evaluator gives -/
theorem lc_mono {C : Ct} {i : Nat} {CT : CTb} {g : TG} {tt : TT} {te : TE} {ws : List Nat} {σ : L2.St} {H : Hp} {Q : VK} (h : tLc (tG C (RI C.X.K) (evi CT (.itl (.var i)))) g tt te ws σ H Q) : tLc (iList C.X.K (tG C (RD C.X.K) (ev CT (.var i)))) g tt te ws σ H Q := by
  obtain ⟨ρ, m, s, hR, hP⟩ := h
  refine ⟨ρ, m, s, hR, ?_⟩
  rw [evi] at hP
  refine (PX.bnd (R := RD C.X.K) hP).mono fun v H1 ⟨x, m1, s1, t1, S, rx, q⟩ => ?_
  split at q
  · obtain ⟨l, ys, e1, n1, h1, r1⟩ := rx
    exact ⟨l, e1, ⟨ys, SqL.of h1⟩, q m1 H1 (Itl C.X.K l) .refl S (ri_list h1 n1 r1)⟩
  · exact (show False from q).elim
theorem sg_tupH {C : Ct} {es : List Expr} {k : Nat} {pos : Pos} {t : E} (hot : HotC C.X a oe) (hd : oe.data = .fields vs) (hc : vs[2]? = some .none) (hst : es.any isStar = false) (h : PGs C.X es (tTs C.X.K C.L t)) (hl : ∀ (ds : List D) (ρ ρ' : Env), bindTs t ds ρ = some ρ' → ds.length = es.length) : PG C.X (.Tuple es k pos) (tT C.X.K C.L (.ttp t)) := by
  obtain ⟨h1, h2⟩ := assignEach_len (env := C.X.env) hst
  have both : PG C.X (.Tuple es k pos) (fun v σ H Q => gTup C.X.K es.length (tTs C.X.K C.L t) v σ H Q ∨ gUnl C.X.K es.length (tTs C.X.K C.L t) v σ H Q) :=
    ⟨fun pins s σ H v u Q I r q => q.elim (fun q => (pg_tupH hot hd hc h h1 h2).run pins s σ H v u Q I r q) fun q => (pg_unlH hot hd hc h h1 h2).run pins s σ H v u Q I r q⟩
  refine PG.imp both fun v σ H Q ⟨ρ, m, s, d, ρ', hR, rd, e, q⟩ => ?_
  cases d with
  | tup xs =>
    obtain ⟨l, ws, e1, hs, r⟩ := rd
    exact .inl ⟨l, ws, e1, hs, by rw [← r.length]; exact hl xs ρ ρ' e, ρ, m, s, xs, ρ', hR, r, e, q⟩
  | lst xs =>
    obtain ⟨l, ws, e1, _, hs, r⟩ := rd
    exact .inr ⟨l, ws, e1, SqL.of hs, by rw [← r.length]; exact hl xs ρ ρ' e, ρ, m, s, xs, ρ', hR, r, e, q⟩
  | _ => cases e
/-- the checked, inside a suite -/
structure ChdH (nm : Nat → Str) (sub : Nat → Bool) (N : List Str) (a cl : Addr) (oe : Obj) (vs : Array Value) (e : E) : Prop where
  se : ∀ (C : Ct) (sc : Scope) (x : Expr), HotK C a oe vs cl nm sub → C.X.N = N → C.X.env.scope = sc → chkH nm N e sc x = true → SE C x (ev (CTH a sub) e)
  sa : ∀ (C : Ct) (sc : Scope) (xs : List Expr), HotK C a oe vs cl nm sub → C.X.N = N → C.X.env.scope = sc → chksH nm N e sc xs = true → SA C xs (evs (CTH a sub) e) ∧ xs.any isStar = false
theorem chdH_none {e : E} (h1 : ∀ sc x, chkH nm N e sc x = false) (h2 : ∀ sc xs, chksH nm N e sc xs = false) : ChdH nm sub N a cl oe vs e :=
  ⟨fun C sc x _ _ _ h => (by rw [h1] at h; cases h), fun C sc xs _ _ _ h => (by rw [h2] at h; cases h)⟩
theorem chdH_e {e : E} (h2 : ∀ sc xs, chksH nm N e sc xs = false) (se : ∀ (C : Ct) (sc : Scope) (x : Expr), HotK C a oe vs cl nm sub → C.X.N = N → C.X.env.scope = sc → chkH nm N e sc x = true → SE C x (ev (CTH a sub) e)) : ChdH nm sub N a cl oe vs e :=
  ⟨se, fun C sc xs _ _ _ h => (by rw [h2] at h; cases h)⟩
theorem chdsH (e : E) : ChdH nm sub N a cl oe vs e := by
  induction e with
  | var i => exact chdH_e (fun _ _ => rfl) fun C sc x G hN hs h => (hv_name hN hs h).1
  | cstr t =>
    refine chdH_e (fun _ _ => rfl) fun C sc x G hN hs h => ?_
    simp only [chkH] at h
    split at h
    · have e := of_decide_eq_true h
      subst e
      exact se_const pe_str fun _ _ => rfl
    · cases h
  | tup es ih =>
    refine chdH_e (fun _ _ => rfl) fun C sc x G hN hs h => ?_
    simp only [chkH] at h
    split at h
    · exact se_tup (ih.sa C sc _ G hN hs h).1
    · cases h
  | lst m es ih =>
    refine chdH_e (fun _ _ => rfl) fun C sc x G hN hs h => ?_
    simp only [chkH] at h
    split at h
    · exact se_lst (ih.sa C sc _ G hN hs h).1
    · cases h
  | bin o l r ihl ihr =>
    refine chdH_e (fun _ _ => rfl) fun C sc x G hN hs h => ?_
    simp only [chkH] at h
    split at h
    · simp only [Bool.and_eq_true] at h
      obtain ⟨⟨h1, h2⟩, h3⟩ := h
      have e := of_decide_eq_true h1
      subst e
      exact se_binO (ihl.se C sc _ G hN hs h2) (ihr.se C sc _ G hN hs h3)
    · cases h
  | call k es ih =>
    refine chdH_e (fun _ _ => rfl) fun C sc x G hN hs h => ?_
    simp only [chkH] at h
    split at h
    · rename_i i n p y q z r pos
      simp only [Bool.and_eq_true] at h
      obtain ⟨⟨⟨⟨⟨⟨h1, h2⟩, h3⟩, h4⟩, h5⟩, h6⟩, h7⟩ := h
      have e := of_decide_eq_true h1
      subst e
      have e := of_decide_eq_true h6
      subst e
      obtain ⟨g4, g5⟩ := notDbg_ok h5
      obtain ⟨v, cv, c1, c2, c3⟩ := G.cls k r (glB_ok hs h7)
      have hy : SE C (.Name y q) (ev (CTH a sub) (.var i)) := se_var (by rw [hN]; exact of_decide_eq_true h3) (visB_ok hs h4) g4 g5
      refine PE.imp (pe_callB G.isc (glB_ok hs h2) G.mgi boot_isinstance (pa_cons hy (pa_cons c1 pa_nil (starEach_cons rfl)) (starEach_cons rfl)) (by decide) (by decide) (starEach_cons rfl) rfl) fun σ H Q ⟨ρ, m, s, hR, hP⟩ => ?_
      refine ⟨ρ, m, s, hR, ?_⟩
      have e0 : ev (CTH a sub) (.call k (.cons (.var i) .nil)) ρ s = bnd (ev (CTH a sub) (.var i) ρ s) fun x s1 => CTH a sub k [x] s1 := by
        have e1 : ev (CTH a sub) (.call k (.cons (.var i) .nil)) ρ s = bnd (bnd (ev (CTH a sub) (.var i) ρ s) fun x s1 => bnd (some (.ok [] s1)) fun xs s2 => some (.ok (x :: xs) s2)) fun xs s1 => CTH a sub k xs s1 := rfl
        rw [e1]
        cases ev (CTH a sub) (.var i) ρ s with
        | none => rfl
        | some o => cases o <;> rfl
      rw [e0] at hP
      refine (PX.bnd (R := RD C.X.K) hP).mono fun u H1 ⟨x, m1, s1, t1, S, rx, qq⟩ => ?_
      cases x with
      | adr b =>
        have q2 : PX C.X.K C.ca C.L (RD C.X.K) m1 s1 H1 (if b = a then some (.ok (.bl (sub k)) s1) else none) Q (WE C.W σ) := qq
        split at q2
        · rename_i e
          subst e
          have eu : u = .ref b := rx
          subst eu
          exact ⟨v, cv, sub k, rfl, c2, c3, q2 m1 H1 _ .refl S rfl⟩
        · exact (show False from q2).elim
      | _ => exact (show False from qq).elim
    · cases h
  | nil =>
    refine ⟨fun C sc x G hN hs h => (Bool.false_ne_true h).elim, fun C sc xs G hN hs h => ?_⟩
    cases xs with
    | nil => exact ⟨sa_nil, rfl⟩
    | cons x r => exact (Bool.false_ne_true h).elim
  | cons l r ihl ihr =>
    refine ⟨fun C sc x G hN hs h => (Bool.false_ne_true h).elim, fun C sc xs G hN hs h => ?_⟩
    cases xs with
    | nil => exact (Bool.false_ne_true h).elim
    | cons x xs =>
      have h : (!(isStar x) && chkH nm N l sc x && chksH nm N r sc xs) = true := h
      simp only [Bool.and_eq_true] at h
      obtain ⟨⟨h1, h2⟩, h3⟩ := h
      obtain ⟨q1, q2⟩ := ihr.sa C sc xs G hN hs h3
      exact ⟨sa_cons (nstar h1) (ihl.se C sc x G hN hs h2) q1, by rw [List.any_cons, nstar h1, q2]; rfl⟩
  | comp own tg elt it cond iht ihe ihi ihc =>
    refine chdH_e (fun _ _ => rfl) fun C sc x G hN hs h => ?_
    have h : chkComp N own tg elt it cond sc x = true := h
    unfold chkComp at h
    split at h
    · rename_i i1 j1 i r j e n1 p1 n2 p2 kk tpos it' c scope pos hx0
      simp only [Bool.and_eq_true] at h
      obtain ⟨⟨⟨⟨⟨⟨⟨h1, h2⟩, h3⟩, h4⟩, h5⟩, h6⟩, h7⟩, h8⟩ := h
      have e3 := of_decide_eq_true h3
      have hblk : ∀ (s : Shared) (H : Hp) (A : Addr) (cl' : List (Str × Addr)) (fp : List Addr), (C.blk (C.X.blk s H scope (compEnvC scope cl' A C.X.env) fp)).X.env.scope = relS scope sc := fun s H A cl' fp => by
        subst hs
        rfl
      obtain ⟨hit, n, p, ex⟩ := hv_name (CT := CTH a sub) hN hs h1
      have hset : ∀ v, foldedSetIterable it' C.X.env v = pure v := fun v => by rw [ex]; rfl
      subst hN
      have loc : ∀ (C' : Ct) (n : Str), C'.X.env.scope = relS scope sc → locB false (relS scope sc) n = true → C'.X.env.scope.names.lookup n = some .local := fun C' n hs' hl => by
        rw [hs']
        unfold locB at hl
        split at hl
        · assumption
        · cases hl
        · cases hl
      have hgt : ∀ C' : Ct, C'.X.N = C.X.N → C'.X.env.scope = relS scope sc → HotC C'.X a oe → PG C'.X (.Tuple [.Name n1 p1, .Name n2 p2] kk tpos) (tT C'.X.K C'.L (.ttp (.cons (.tnm i1) (.cons (.tnm j1) .nil)))) := fun C' hN' hs' hot => by
        have l1 := loc C' n1 hs' h5.2
        have l2 := loc C' n2 hs' h6.2
        have nd : C'.X.N.Nodup := by rw [hN']; exact G.nd
        refine sg_tupH hot G.dat G.ctx rfl (sgs_cons rfl (sg_name nd (by rw [hN']; exact of_decide_eq_true h5.1) (.inl l1) (.inr l1)) (sgs_cons rfl (sg_name nd (by rw [hN']; exact of_decide_eq_true h6.1) (.inl l2) (.inr l2)) sgs_nil)) fun ds ρ ρ' e => ?_
        match ds, e with
        | [x, y], _ => rfl
      have base := pe_lcH (pos := pos) (tg := .Tuple [.Name n1 p1, .Name n2 p2] kk tpos) (tl := tG C (RD C.X.K) (ev (CTH a sub) (.var r))) (tt := tG' C.X.K C.ca C.L (fun _ _ _ _ => False) RB fun ρ s => tst (ev (CTH a sub) (.var j) ρ s)) (g := tT C.X.K C.L (.ttp (.cons (.tnm i1) (.cons (.tnm j1) .nil)))) (te := tG' C.X.K C.ca C.L (fun _ _ _ _ => False) (RD C.X.K) (ev (CTH a sub) (.var i))) (elt := e) (scope := scope)
        G.pn G.hd G.dat G.ctx G.nd hit (blkOk_by (own := own.filterMap fun i => (C.X.N[i]?).map fun n => (n, i)) (by rw [hs]; exact h2))
        (fun s H A cl' fp hot => hgt (C.blk (C.X.blk s H scope (compEnvC scope cl' A C.X.env) fp)) rfl (hblk s H A cl' fp) hot)
        (fun s H A cl' fp => by
          obtain ⟨q1, n', p', q2⟩ := hv_name (CT := CTH a sub) (C := C.blk (C.X.blk s H scope (compEnvC scope cl' A C.X.env) fp)) rfl (hblk s H A cl' fp) h8
          exact pts_one (st_val q1 (by rw [q2]; exact plainT_ok rfl)))
        (fun s H A cl' fp => (hv_name (CT := CTH a sub) (C := C.blk (C.X.blk s H scope (compEnvC scope cl' A C.X.env) fp)) rfl (hblk s H A cl' fp) h7).1) hset
      refine PE.imp base fun σ H Q hq => lc_mono ?_
      refine lc_use (mm := false) (own := own.filterMap fun i => (C.X.N[i]?).map fun n => (n, i)) (eT := .ttp (.cons (.tnm i1) (.cons (.tnm j1) .nil))) (fun q hq => ?_) ?_
      · rw [e3]
        have hq : q ∈ [i1, j1] := hq
        simp only [List.mem_cons, List.not_mem_nil, or_false] at hq
        rcases hq with rfl | rfl
        · exact List.contains_iff_mem.mp h4.1
        · exact List.contains_iff_mem.mp h4.2
      · rw [e3]
        exact hq
    · cases h
  | _ => exact chdH_none (fun _ _ => rfl) (fun _ _ => rfl)
end
end EV

set_option maxHeartbeats 4000000
/-! the suite's statements; a call of what a slot holds -/
namespace EV
open PySem PySem.Spec PyProof.Rows L2
def chkSH (nm : Nat → Str) (N : List Str) : List (Nat × E) → Scope → List Stmt → Bool
  | [], _, sts => match sts with
    | [] => true
    | _ => false
  | (i, e) :: r, sc, sts => match sts with
    | .Assign [.Name n p] x _ :: rest => decide (N[i]? = some n) && locB true sc n && chkH nm N e sc x && decide (swV sc n p x = some false) && chkSH nm N r sc rest
    | _ => false
def hotS (CT : CTb) : List (Nat × E) → Env → Sto → Option SO
  | [], ρ, s => some (.nx ρ s)
  | (i, e) :: r, ρ, s => sbd ρ (ev CT e ρ s) fun x s1 => hotS CT r (ρ.set i (some x)) s1
theorem hot_suite {nm : Nat → Str} {sub : Nat → Bool} {N : List Str} {a cl : Addr} {oe : Obj} {vs : Array Value} {C : Ct} {sc : Scope} (G : HotK C a oe vs cl nm sub) (hN : C.X.N = N) (hs : C.X.env.scope = sc) (hfn : ∀ n, C.X.fn n = true) (hk : C.X.env.scope.kind = .function) :
    ∀ (h : List (Nat × E)) (sts : List Stmt), chkSH nm N h sc sts = true → SSs C sts (hotS (CTH a sub) h)
  | [], sts, h => by
    cases sts with
    | nil => exact ss_nil
    | cons x r => exact (Bool.false_ne_true h).elim
  | (i, e) :: r, sts, h => by
    unfold chkSH at h
    split at h
    · rename_i n p x q rest
      simp only [Bool.and_eq_true] at h
      obtain ⟨⟨⟨⟨h1, h2⟩, h3⟩, h4⟩, h5⟩ := h
      have h1 := of_decide_eq_true h1
      have hsw := swV_ok (l := q.line) hk (by rw [hs]; exact of_decide_eq_true h4)
      obtain ⟨l1, l2⟩ := loc_of h2
      have st := ss_set (C := C) (ps_set (pos := q) G.nd (by rw [hN]; exact h1) (by rw [hs]; exact l1) ((chdsH e).se C sc x G hN hs h3) hsw (l2 C hfn))
      have := ss_cons st (hot_suite G hN hs hfn hk r rest h5)
      have e2 : hotS (CTH a sub) ((i, e) :: r) = fun ρ s => match sbd ρ (ev (CTH a sub) e ρ s) fun x s1 => some (.nx (ρ.set i (some x)) s1) with
        | some (.nx ρ1 s1) => hotS (CTH a sub) r ρ1 s1
        | o => o := by
        funext ρ s
        show (sbd ρ (ev (CTH a sub) e ρ s) fun x s1 => hotS (CTH a sub) r (ρ.set i (some x)) s1) = _
        cases ev (CTH a sub) e ρ s with
        | none => rfl
        | some o => cases o <;> rfl
      rw [e2]
      exact this
    · cases h
end EV
namespace L2
open PySem PySem.Spec PyProof.Rows
/-- f(..), f a slot that holds the def at f -/
def tCallSlt (i : Nat) (f : Addr) (sp : Sp) (E : St → XK) (t : TA) : TE := fun σ H Q => σ[i]? = some (some (.ref f)) ∧ t σ H fun vs H1 => sp vs H1 Q (E σ)
theorem pe_callSlt {X : Cx} {CX : CXT} {k i : Nat} {f : Addr} {sp : Sp} {E : St → XK} {x : Str} {p pos : Pos} {e : Expr} {es : List Expr} {t : TA} (F : FnR X.prog X.w X.K X.mg X.base CX k f sp) (hr : Room k X.A) (hN : X.N[i]? = some x) (hv : Vis X.env.scope x) (hk : PySem.W.keepIn X.K (.ref f) = true)
    (hx : ∀ σ, PassesAt CX X σ (E σ)) (ha : PA X (e :: es) t) (hdb : (x == ("__debug__" : Str)) = false) (hcd : (x == ("__classdict__" : Str)) = false)
    (he : starEach (e :: es) X.env = (false, eval e X.env) :: starEach es X.env) (hpl : (backTo pos (starEach es X.env)).any (·.1) = false) : PE X (.Call (.Name x p) (e :: es) [] pos) (tCallSlt i f sp E t) := by
  refine ⟨fun pins s σ H Q I h => ?_⟩
  obtain ⟨hs, ht⟩ := h
  refine wpAny_Call_Name_kw (thn ((pe_var (pos := p) hN hv hdb hcd).run pins s σ H (fun v H1 => v = .ref f ∧ H1 = H) I ⟨.ref f, hs, rfl, rfl⟩) fun u s1 ⟨v, H1, I1, r1, q1⟩ => ?_)
  obtain ⟨rfl, rfl⟩ := q1
  cases r1
  exact PySem.W.callWith_K (h₀ := X.base) I.ok.mod.kin hk (thn (ha.run pos pins s1 σ _ _ I1 ht) fun us s2 ⟨vs, H2, I2, r, q⟩ => ⟨I2.kIn, EV.run_fnRD F hr (hx σ) I2 r q⟩) he hpl
end L2

set_option maxHeartbeats 4000000
/-! the def _law_error: kinds = []; try: call(a, b, c); except PrintError as e: ..; return kinds -/
namespace EV
open PySem PySem.Spec PyProof.Rows L2
def NE : List Str := ["call", "a", "b", "c", "kinds", "e", "rows", "name", "there"]
def chkErr (nm : Nat → Str) (hl : List (Nat × E)) (sc : Scope) (body : List Stmt) : Bool :=
  match body with
  | [.Assign [.Name n1 _] (.List [] _) _, .Try [.Expr (.Call (.Name n2 _) [.Name na _, .Name nb _, .Name nc _] [] _) _] [.ExceptHandler (some (.Name nx _)) (some ne) (b0 :: suite) _] [] [] _, .Return (some (.Name n3 _)) _] =>
    decide (n1 = "kinds") && decide (n2 = "call") && decide (na = "a") && decide (nb = "b") && decide (nc = "c") && decide (nx = "PrintError") && decide (ne = "e") && decide (n3 = "kinds") &&
    (glB sc "PrintError" && decide (sc.names.lookup ("e" : Str) = some .local) && decide (sc.names.lookup ("kinds" : Str) = some .local) && decide (sc.names.lookup ("call" : Str) = some .local) && decide (sc.names.lookup ("a" : Str) = some .local) && decide (sc.names.lookup ("b" : Str) = some .local) && decide (sc.names.lookup ("c" : Str) = some .local)) &&
    chkSH nm NE hl sc (b0 :: suite)
  | _ => false
/-- what comes of the def: the callee's outcome, told -/
def errO (kd : Nat → Option (List D)) : Option (Out D) → Option (Out D)
  | some (.ok _ s1) => some (.ok (.lst []) s1)
  | some (.exc j s1) => match kd j with
    | some ks => some (.ok (.lst ks) s1)
    | none => none
  | none => none
structure ErrK (C : Ct) (nm : Nat → Str) (sub : Nat → Nat → Bool) (kd : Nat → Option (List D)) (hl : List (Nat × E)) (cpe : Addr) : Prop where
  nd : C.X.N.Nodup
  kind : C.X.env.scope.kind = .function
  fnn : ∀ n, C.X.fn n = true
  stk : C.X.stack = C.X.env :: C.X.outer
  frm : C.X.env.frame = some C.X.env.locals
  tk : L2N.Takes C.X C.W
  pe : C.X.mg "PrintError" = some (.ref cpe)
  isn : C.X.mg "isinstance" = none
  exm : ∀ j ks, kd j = some ks → PySem.W.exmOne C.X.K (.ref (C.ca j)) (.ref cpe) = some true
  exc : ∀ j ks, kd j = some ks → ExcC C.X.K (C.ca j)
  cls : ∀ j ks, kd j = some ks → ∀ (Y : Cx), Y.mg = C.X.mg → Y.K = C.X.K → ∀ k p, Gl Y (nm k) → ∃ (v : V) (cv : Value), PE Y (.Name (nm k) p) (tC v) ∧ (∀ u, RelV v u → u = cv) ∧ PySem.W.kitOne Y.K (.ref (C.ca j)) cv = some (sub j k)
  run : ∀ j ks, kd j = some ks → ∀ (a : Addr) (d1 d2 d3 : D) (s : Sto), ∃ ρ3, hotS (CTH a (sub j)) hl [none, some d1, some d2, some d3, some (.lst []), some (.adr a), none, none, none] s = some (.nx ρ3 s) ∧ ρ3[4]? = some (some (.lst ks))
/-- how the slot 0 is called: sp, where what g says of the heap holds -/
def CallsAt (C : Ct) (f0 : Addr) (sp : Sp) : Prop :=
  ∀ (W : WX) (pn : List (Addr × Obj)) (xe : Value → Shared → Prop), L2N.Takes (C.X.tr pn xe) W → Vis C.X.env.scope "call" → ∀ {e : Expr} {es : List Expr} {t : TA} {p pos : Pos}, PA (C.X.tr pn xe) (e :: es) t →
    starEach (e :: es) C.X.env = (false, eval e C.X.env) :: starEach es C.X.env → (backTo pos (starEach es C.X.env)).any (·.1) = false → PE (C.X.tr pn xe) (.Call (.Name "call" p) (e :: es) [] pos) (tCallSlt 0 f0 sp (fun σ => WE W σ) t)
theorem calls_fn {C : Ct} {k : Nat} {f0 : Addr} {sp : Sp} (hN : C.X.N = NE) (F : FnR C.X.prog C.X.w C.X.K C.X.mg C.X.base (L2N.CX C.X.prog C.X.w) k f0 sp) (hr : Room k C.X.A) (hk : PySem.W.keepIn C.X.K (.ref f0) = true) : CallsAt C f0 sp :=
  fun W pn xe tk hv _ _ _ _ _ ha h1 h2 => pe_callSlt (X := C.X.tr pn xe) F hr (by show C.X.N[0]? = _; rw [hN]; rfl) hv hk (fun σ => L2N.passAt tk σ) ha (by decide) (by decide) h1 h2
theorem err_body {nm : Nat → Str} {sub : Nat → Nat → Bool} {kd : Nat → Option (List D)} {hl : List (Nat × E)} {cpe : Addr} {C : Ct} {sc : Scope} {body : List Stmt} {CT : CTb} {f : Nat} {f0 : Addr} {g : Hp → Prop} (G : ErrK C nm sub kd hl cpe) (hN : C.X.N = NE) (hs : C.X.env.scope = sc) (h : chkErr nm hl sc body = true)
    (PC : CallsAt C f0 fun vs H Q E => g H ∧ spF C.X.K C.ca CT f vs H Q E) (hg : ∀ m s H m' s' H', Step C.L m s H m' s' H' → g H → g H') :
    ∃ t : TS, PSs C.X body t ∧ ∀ (D' : Ends) (m : Pl) (s : Sto) (H : Hp) (d1 d2 d3 : D) (σ : L2.St), g H → Rel C m s H [none, some d1, some d2, some d3, none, none, none, none, none] σ → σ[0]? = some (some (.ref f0)) →
      PX C.X.K C.ca C.L (RD C.X.K) m s H (errO kd (CT f [d1, d2, d3] s)) D'.rt (fun _ _ _ => False) → t D' σ H := by
  unfold chkErr at h
  split at h
  case h_2 => cases h
  rename_i n1 p1 p2 p3 n2 p4 na p5 nb p6 nc p7 p8 p9 nx p10 ne b0 suite p11 p12 n3 p13 p14
  simp only [Bool.and_eq_true, decide_eq_true_eq] at h
  obtain ⟨⟨⟨⟨⟨⟨⟨⟨⟨rfl, rfl⟩, rfl⟩, rfl⟩, rfl⟩, rfl⟩, rfl⟩, rfl⟩, ⟨⟨⟨⟨⟨⟨g1, g2⟩, g3⟩, g4⟩, g5⟩, g6⟩, g7⟩⟩, h2⟩ := h
  have at_ : ∀ (i : Nat) (n : Str), NE[i]? = some n → C.X.N[i]? = some n := fun i n e => by rw [hN]; exact e
  have vis : ∀ (n : Str), sc.names.lookup n = some .local → Vis C.X.env.scope n := fun n e => by rw [hs]; exact .inl e
  have loc : ∀ (n : Str), sc.names.lookup n = some .local → Loc C.X.env.scope n := fun n e => by rw [hs]; exact .inl e
  -- kinds = []
  have s1 : PS C.X (.Assign [.Name "kinds" p1] (.List [] p2) p3) (tAsg (tG C (RD C.X.K) (ev CT (.lst false .nil))) (gName 4)) :=
    ps_set G.nd (at_ 4 _ rfl) (loc _ g3) (se_lst (mm := false) (cs := evs CT .nil) sa_nil) rfl (.inl (G.fnn _))
  -- the call
  have call : ∀ (W : WX) (pn : List (Addr × Obj)) (xe : Value → Shared → Prop), L2N.Takes (C.X.tr pn xe) W → PE (C.X.tr pn xe) (.Call (.Name "call" p4) [.Name "a" p5, .Name "b" p6, .Name "c" p7] [] p8)
      (tCallSlt 0 f0 (fun vs H Q E => g H ∧ spF C.X.K C.ca CT f vs H Q E) (fun σ => WE W σ) (tG ⟨C.X.tr pn xe, C.L, W, C.ca⟩ (RDs C.X.K) (evs CT (.cons (.var 1) (.cons (.var 2) (.cons (.var 3) .nil)))))) := fun W pn xe tk => by
    have va : ∀ (i : Nat) (n : Str) (p : Pos), NE[i]? = some n → sc.names.lookup n = some .local → (n == ("__debug__" : Str)) = false → (n == ("__classdict__" : Str)) = false → SE ⟨C.X.tr pn xe, C.L, W, C.ca⟩ (.Name n p) (ev CT (.var i)) := fun i n p e1 e2 e3 e4 => se_var (C := ⟨C.X.tr pn xe, C.L, W, C.ca⟩) (at_ i n e1) (vis n e2) e3 e4
    exact PC W pn xe tk (vis _ g4)
      (sa_cons rfl (va 1 _ p5 rfl g5 (by decide) (by decide)) (sa_cons rfl (va 2 _ p6 rfl g6 (by decide) (by decide)) (sa_cons rfl (va 3 _ p7 rfl g7 (by decide) (by decide)) sa_nil))) (starEach_cons rfl) rfl
  -- the suite
  have suite : ∀ (a : Addr) (oe : Obj) (cls : Value) (d : Option Addr) (pn : List (Addr × Obj)), L2N.Zn cls d oe → (∃ vs, oe.data = .fields vs) → PSs (C.X.suite a ((a, oe) :: pn)) (b0 :: suite)
      (fun D' σ H => ∃ j ks, kd j = some ks ∧ cls = .ref (C.ca j) ∧ d = none ∧ tS ⟨C.X.suite a [], C.L, fun _ _ _ _ => False, C.ca⟩ (hotS (CTH a (sub j)) hl) D' σ H) := fun a oe cls d pn hz ⟨vs, hv⟩ => by
    refine ⟨fun pins s σ H D' I ⟨j, ks, hj, ec, ed, q⟩ => ?_⟩
    subst ec ed
    have hot : HotK ⟨C.X.suite a ((a, oe) :: pn), C.L, fun _ _ _ _ => False, C.ca⟩ a oe vs (C.ca j) nm (sub j) :=
      ⟨List.mem_cons_self, rfl, hv, hz.2.2 vs hv, G.nd, call_isE (G.exc j ks hj) hz.zc ⟨vs, hv⟩, G.isn, fun k p hg => G.cls j ks hj (C.X.suite a ((a, oe) :: pn)) rfl rfl k p hg⟩
    exact (hot_suite hot hN hs G.fnn G.kind hl (b0 :: suite) h2).run pins s σ H D' I q
  have s2 := L2N.ps_try_as (X := C.X) (x := "PrintError") (n := "e") (c := .ref cpe) (i := 5) (np := p10) (pos := p12) (pos' := p11) (Wout := C.W) (tb := fun W => tDrop (tCallSlt 0 f0 (fun vs H Q E => g H ∧ spF C.X.K C.ca CT f vs H Q E) (fun σ => WE W σ) (tG ⟨C.X, C.L, W, C.ca⟩ (RDs C.X.K) (evs CT (.cons (.var 1) (.cons (.var 2) (.cons (.var 3) .nil)))))))
    G.stk G.frm G.nd (at_ 5 _ rfl) (by rw [Env.kindOf, hs]; exact g2) ⟨by rw [hs.symm] at g1; exact glB_ok rfl g1, by decide, .inl G.pe⟩ G.tk
    (fun W pn xe tk po => PSs.imp (pss_cons (ps_expr (pos := p9) (call W pn xe tk) rfl) pss_nil) fun D' σ H q => q) suite
  have s3 : PS C.X (.Return (some (.Name "kinds" p13)) p14) (tRet (tG C (RD C.X.K) (ev CT (.var 4)))) := ps_ret (se_var (at_ 4 _ rfl) (vis _ g3) (by decide) (by decide))
  refine ⟨_, pss_cons s1 (pss_cons s2 (pss_cons s3 pss_nil)), fun D' m s H d1 d2 d3 σ gH hR h0 hP => ?_⟩
  have e1 : ev CT (.lst false .nil) [none, some d1, some d2, some d3, none, none, none, none, none] s = some (.ok (.lst []) s) := by
    rw [show ev CT (.lst false .nil) [none, some d1, some d2, some d3, none, none, none, none, none] s = fresh false [] s from rfl]
    unfold fresh
    rw [if_pos (show ([] : List D).length ≤ sizeLine from Nat.zero_le _)]
    rfl
  refine ⟨_, m, s, hR, ?_⟩
  show PX C.X.K C.ca C.L (RD C.X.K) m s H (ev CT (.lst false .nil) [none, some d1, some d2, some d3, none, none, none, none, none] s) _ _
  rw [e1]
  intro m1 H1 v t1 S1 r1
  have hR1 : Rel C m1 s H1 [none, some d1, some d2, some d3, some (.lst []), none, none, none, none] (σ.set 4 (some v)) := (hR.step t1 S1).set 4 r1
  have h01 : (σ.set 4 (some v))[0]? = some (some (.ref f0)) := by rw [List.getElem?_set_ne (by decide)]; exact h0
  refine ⟨h01, [none, some d1, some d2, some d3, some (.lst []), none, none, none, none], m1, s, hR1, ?_⟩
  show PX C.X.K C.ca C.L (RDs C.X.K) m1 s H1 (some (.ok [d1, d2, d3] s)) _ _
  intro m2 H2 us t2 S2 r2
  refine ⟨hg _ _ _ _ _ _ (t1.trans t2) gH, C.L, m2, s, [d1, d2, d3], hR.base, S2, r2, ?_⟩
  match e : CT f [d1, d2, d3] s, hP with
  | none, hP => exact (show False from hP).elim
  | some (.ok x sx), hP =>
    intro m3 H3 b t3 S3 rb
    refine ⟨[none, some d1, some d2, some d3, some (.lst []), none, none, none, none], m3, sx, hR1.step (t2.trans t3) S3, ?_⟩
    show PX C.X.K C.ca C.L (RD C.X.K) m3 sx H3 (some (.ok (.lst []) sx)) _ _
    exact fun m4 H4 w t4 S4 rw4 => hP m4 H4 w (t1.trans (t2.trans (t3.trans t4))) S4 rw4
  | some (.exc j sx), hP =>
    match ek : kd j, hP with
    | none, hP =>
      have hP : PX C.X.K C.ca C.L (RD C.X.K) m s H (match kd j with
        | some ks => some (.ok (.lst ks) sx)
        | none => none) D'.rt (fun _ _ _ => False) := hP
      rw [ek] at hP
      exact (show False from hP).elim
    | some ks, hP =>
      have hP : PX C.X.K C.ca C.L (RD C.X.K) m s H (match kd j with
        | some ks => some (.ok (.lst ks) sx)
        | none => none) D'.rt (fun _ _ _ => False) := hP
      rw [ek] at hP
      intro m3 H3 t3 S3
      refine ⟨true, G.exm j ks ek, fun _ a ha => ⟨j, ks, ek, rfl, rfl, ?_⟩, fun z => nomatch z⟩
      refine ⟨[none, some d1, some d2, some d3, some (.lst []), some (.adr a), none, none, none], m3, sx, (hR1.step (t2.trans t3) S3).set 5 (d := .adr a) rfl, ?_⟩
      obtain ⟨ρ3, er, e4⟩ := G.run j ks ek a d1 d2 d3 sx
      rw [er]
      intro σ' m4 H4 t4 R4
      refine ⟨wipeE ρ3 [5], m4, sx, R4.wipe [5], ?_⟩
      have ev4 : ev CT (.var 4) (wipeE ρ3 [5]) sx = some (.ok (.lst ks) sx) := by
        have q : (wipeE ρ3 [5])[4]? = some (some (.lst ks)) := by
          show (ρ3.set 5 none)[4]? = _
          rw [List.getElem?_set_ne (by decide)]
          exact e4
        show (match (wipeE ρ3 [5])[4]? with
          | some (some d) => some (Out.ok d sx)
          | _ => none) = _
        rw [q]
      show PX C.X.K C.ca C.L (RD C.X.K) m4 sx H4 (ev CT (.var 4) (wipeE ρ3 [5]) sx) _ _
      rw [ev4]
      exact fun m5 H5 w t5 S5 rw5 => hP m5 H5 w (t1.trans (t2.trans (t3.trans (t4.trans t5)))) S5 rw5
end EV

set_option maxHeartbeats 4000000
/-! _law_error's own suite; the def as a function of the table -/
namespace EV
open PySem PySem.Spec PyProof.Rows L2
def hnames : List Str := ["InvalidJob", "InvalidPlan", "InvalidPages", "InvalidNumber", "InvalidWord", "InvalidSeen", "TooMany", "NothingToUndo"]
def hnm (k : Nat) : Str := hnames.getD k "ValueError"
def hsub (x : Str) (k : Nat) : Bool := decide (8 ≤ k) || decide (hnm k = x)
def hrow (x : Str) (k : Nat) : E := .tup (.cons (.cstr x) (.cons (.call k (.cons (.var 5) .nil)) .nil))
def hhl : List (Nat × E) := [(6, .lst false (.cons (hrow "InvalidJob" 0) (.cons (hrow "InvalidPlan" 1) .nil))), (6, .bin .add (.var 6) (.lst false (.cons (hrow "InvalidPages" 2) .nil))), (6, .bin .add (.var 6) (.lst false (.cons (hrow "InvalidNumber" 3) .nil))),
  (6, .bin .add (.var 6) (.lst false (.cons (hrow "InvalidWord" 4) (.cons (hrow "InvalidSeen" 5) .nil)))), (6, .bin .add (.var 6) (.lst false (.cons (hrow "TooMany" 6) (.cons (hrow "NothingToUndo" 7) .nil)))),
  (4, .bin .add (.comp [7, 8] (.ttp (.cons (.tnm 7) (.cons (.tnm 8) .nil))) (.var 7) (.itl (.var 6)) (.var 8)) (.lst false (.cons (.call 8 (.cons (.var 5) .nil)) .nil)))]
theorem sbd_ok' {α : Type} {ρ : Env} {a : α} {s : Sto} {f : α → Sto → Option SO} : sbd ρ (some (.ok a s)) f = f a s := rfl
theorem bnd_ok' {α β : Type} {a : α} {s : Sto} {f : α → Sto → Option (Out β)} : bnd (some (.ok a s)) f = f a s := rfl
theorem cth_ok {a : Addr} {sub : Nat → Bool} {k : Nat} {s : Sto} : CTH a sub k [.adr a] s = some (.ok (.bl (sub k)) s) := by simp [CTH]
theorem fresh_s {n : Nat} {xs : List D} {s : Sto} (h : xs.length = n) (hn : n ≤ 100) : fresh false xs s = some (.ok (.lst xs) s) := by
  have := sizeLine_eq
  unfold fresh
  rw [if_pos (by omega)]
  rfl
theorem tup_s {xs : List D} {s : Sto} (h : xs.length ≤ 100) : (if xs.length ≤ sizeLine then some (Out.ok (D.tup xs) s) else none) = some (.ok (.tup xs) s) := by
  have := sizeLine_eq
  rw [if_pos (by omega)]
theorem add_s {xs ys : List D} {s : Sto} (h : xs.length + ys.length ≤ 100) : pur s (binD .add s (.lst xs) (.lst ys)) = some (.ok (.lst (xs ++ ys)) s) := by
  have := sizeLine_eq
  show pur s (if xs.length + ys.length ≤ sizeLine then some (D.lst (xs ++ ys)) else none) = _
  rw [if_pos (by omega)]
  rfl
theorem hrow_ok {a : Addr} {sub : Nat → Bool} {x : Str} {k : Nat} {ρ : Env} {s : Sto} (h : ρ[5]? = some (some (.adr a))) : ev (CTH a sub) (hrow x k) ρ s = some (.ok (.tup [.str x, .bl (sub k)]) s) := by
  have e5 : ev (CTH a sub) (.var 5) ρ s = some (.ok (.adr a) s) := by
    show (match ρ[5]? with
      | some (some d) => some (Out.ok d s)
      | _ => none) = _
    rw [h]
  have ec : ev (CTH a sub) (.call k (.cons (.var 5) .nil)) ρ s = some (.ok (.bl (sub k)) s) := by
    show bnd (bnd (ev (CTH a sub) (.var 5) ρ s) fun x s1 => bnd (some (.ok [] s1)) fun xs s2 => some (.ok (x :: xs) s2)) (fun xs s1 => CTH a sub k xs s1) = _
    rw [e5]
    show CTH a sub k [.adr a] s = _
    exact cth_ok
  show bnd (bnd (some (.ok (.str x) s)) fun z s1 => bnd (bnd (ev (CTH a sub) (.call k (.cons (.var 5) .nil)) ρ s1) fun y s2 => bnd (some (.ok [] s2)) fun xs s3 => some (.ok (y :: xs) s3)) fun xs s2 => some (.ok (z :: xs) s2)) (fun xs s1 => if xs.length ≤ sizeLine then some (Out.ok (D.tup xs) s1) else none) = _
  rw [bnd_ok', ec]
  show (if ([.str x, .bl (sub k)] : List D).length ≤ sizeLine then some (Out.ok (D.tup [.str x, .bl (sub k)]) s) else none) = _
  exact tup_s (by simp)
theorem hsum {x : Str} (hx : x ∈ hnames) : (([("InvalidJob", 0), ("InvalidPlan", 1), ("InvalidPages", 2), ("InvalidNumber", 3), ("InvalidWord", 4), ("InvalidSeen", 5), ("TooMany", 6), ("NothingToUndo", 7)] : List (Str × Nat)).filter fun p => hsub x p.2).map (fun p => D.str p.1) = [.str x] ∧ hsub x 8 = true := by
  simp only [hnames, List.mem_cons, List.not_mem_nil, or_false] at hx
  have h1 : ∀ {y : Str} {rs : List (Str × Nat)}, rs.map Prod.fst = [y] → rs.map (fun p => D.str p.1) = [.str y] := fun {y rs} h => by
    have : rs.map (fun p => D.str p.1) = (rs.map Prod.fst).map D.str := by rw [List.map_map]; rfl
    rw [this, h]
    rfl
  rcases hx with rfl | rfl | rfl | rfl | rfl | rfl | rfl | rfl <;> exact ⟨h1 (by decide +kernel), by decide +kernel⟩
theorem lst2 {CT : CTb} {e1 e2 : E} {ρ : Env} {s : Sto} {a b : D} (h1 : ev CT e1 ρ s = some (.ok a s)) (h2 : ev CT e2 ρ s = some (.ok b s)) : ev CT (.lst false (.cons e1 (.cons e2 .nil))) ρ s = some (.ok (.lst [a, b]) s) := by
  show bnd (bnd (ev CT e1 ρ s) fun x s1 => bnd (bnd (ev CT e2 ρ s1) fun y s2 => bnd (some (.ok [] s2)) fun xs s3 => some (.ok (y :: xs) s3)) fun xs s2 => some (.ok (x :: xs) s2)) (fun xs s1 => fresh false xs s1) = _
  rw [h1, bnd_ok', h2]
  exact fresh_s (n := 2) rfl (by decide)
theorem lst1 {CT : CTb} {e1 : E} {ρ : Env} {s : Sto} {a : D} (h1 : ev CT e1 ρ s = some (.ok a s)) : ev CT (.lst false (.cons e1 .nil)) ρ s = some (.ok (.lst [a]) s) := by
  show bnd (bnd (ev CT e1 ρ s) fun x s1 => bnd (some (.ok [] s1)) fun xs s2 => some (.ok (x :: xs) s2)) (fun xs s1 => fresh false xs s1) = _
  rw [h1]
  exact fresh_s (n := 1) rfl (by decide)
theorem add2 {CT : CTb} {e1 e2 : E} {ρ : Env} {s : Sto} {xs ys : List D} (h1 : ev CT e1 ρ s = some (.ok (.lst xs) s)) (h2 : ev CT e2 ρ s = some (.ok (.lst ys) s)) (hl : xs.length + ys.length ≤ 100) : ev CT (.bin .add e1 e2) ρ s = some (.ok (.lst (xs ++ ys)) s) := by
  show bnd (ev CT e1 ρ s) (fun x s1 => bnd (ev CT e2 ρ s1) fun y s2 => pur s2 (binD .add s2 x y)) = _
  rw [h1, bnd_ok', h2]
  exact add_s hl
theorem var_s {CT : CTb} {i : Nat} {ρ : Env} {s : Sto} {d : D} (h : ρ[i]? = some (some d)) : ev CT (.var i) ρ s = some (.ok d s) := by
  show (match ρ[i]? with
    | some (some d) => some (Out.ok d s)
    | _ => none) = _
  rw [h]
theorem hcomp {a : Addr} {sub : Nat → Bool} {ρ : Env} {s : Sto} : ∀ (rows : List (Str × Nat)), 9 ≤ ρ.length → compL (fun x s2 => match bindT (.ttp (.cons (.tnm 7) (.cons (.tnm 8) .nil))) x (wipeE ρ [7, 8]) with
        | none => none
        | some ρ' => match ev (CTH a sub) (.var 8) ρ' s2 with
          | some (.ok (.bl true) s3) => match ev (CTH a sub) (.var 7) ρ' s3 with
            | some (.ok y s4) => some (.ok (some y) s4)
            | _ => none
          | some (.ok (.bl false) s3) => some (.ok none s3)
          | _ => none) (rows.map fun p => .tup [.str p.1, .bl (sub p.2)]) s = some (.ok ((rows.filter fun p => sub p.2).map fun p => .str p.1) s)
  | [], _ => rfl
  | (x, k) :: r, h => by
    have ih := hcomp (a := a) (sub := sub) (ρ := ρ) (s := s) r h
    rw [List.map_cons, compL]
    have e1 : bindT (.ttp (.cons (.tnm 7) (.cons (.tnm 8) .nil))) (.tup [.str x, .bl (sub k)]) (wipeE ρ [7, 8]) = some (((wipeE ρ [7, 8]).set 7 (some (.str x))).set 8 (some (.bl (sub k)))) := rfl
    have l8 : (((wipeE ρ [7, 8]).set 7 (some (D.str x))).set 8 (some (.bl (sub k)))).length = ρ.length := by
      show ((((ρ.set 8 none).set 7 none).set 7 (some (D.str x))).set 8 (some (.bl (sub k)))).length = _
      simp only [List.length_set]
    have e8 : ev (CTH a sub) (.var 8) (((wipeE ρ [7, 8]).set 7 (some (.str x))).set 8 (some (.bl (sub k)))) s = some (.ok (.bl (sub k)) s) := by
      refine var_s ?_
      show ((((ρ.set 8 none).set 7 none).set 7 (some (D.str x))).set 8 (some (.bl (sub k))))[8]? = _
      rw [List.getElem?_set_self (by simp only [List.length_set]; omega)]
    have e7 : ev (CTH a sub) (.var 7) (((wipeE ρ [7, 8]).set 7 (some (.str x))).set 8 (some (.bl (sub k)))) s = some (.ok (.str x) s) := by
      refine var_s ?_
      show ((((ρ.set 8 none).set 7 none).set 7 (some (D.str x))).set 8 (some (.bl (sub k))))[7]? = _
      rw [List.getElem?_set_ne (by decide), List.getElem?_set_self (by simp only [List.length_set]; omega)]
    generalize hk : sub k = b at e1 e8 e7 ⊢
    cases b with
    | false =>
      simp only [e1, e8, ih]
      rw [List.filter_cons_of_neg (by simp [hk])]
    | true =>
      simp only [e1, e8, e7, ih]
      rw [List.filter_cons_of_pos (by simp [hk]), List.map_cons]
theorem ev_comp_l {CT : CTb} {own : List Nat} {tg elt it cond : E} {ρ : Env} {s : Sto} {xs ys : List D} (h1 : evi CT it ρ s = some (.ok xs s)) (h2 : compL (fun x s2 => match bindT tg x (wipeE ρ own) with
        | none => none
        | some ρ' => match ev CT cond ρ' s2 with
          | some (.ok (.bl true) s3) => match ev CT elt ρ' s3 with
            | some (.ok y s4) => some (.ok (some y) s4)
            | _ => none
          | some (.ok (.bl false) s3) => some (.ok none s3)
          | _ => none) xs s = some (.ok ys s)) (hl : ys.length ≤ 100) : ev CT (.comp own tg elt it cond) ρ s = some (.ok (.lst ys) s) := by
  have := sizeLine_eq
  have e : ev CT (.comp own tg elt it cond) ρ s = (match evi CT it ρ s with
    | some (.ok xs s1) => match compL (fun x s2 => match bindT tg x (wipeE ρ own) with
        | none => none
        | some ρ' => match ev CT cond ρ' s2 with
          | some (.ok (.bl true) s3) => match ev CT elt ρ' s3 with
            | some (.ok y s4) => some (.ok (some y) s4)
            | _ => none
          | some (.ok (.bl false) s3) => some (.ok none s3)
          | _ => none) xs s1 with
      | some (.ok ys s5) => if ys.length ≤ sizeLine then some (.ok (.lst ys) s5) else none
      | _ => none
    | _ => none) := rfl
  rw [e, h1]
  dsimp only
  rw [h2]
  dsimp only
  rw [if_pos (by omega)]
theorem hrun {x : Str} (hx : x ∈ hnames) (a : Addr) (d1 d2 d3 : D) (s : Sto) : ∃ ρ3, hotS (CTH a (hsub x)) hhl [none, some d1, some d2, some d3, some (.lst []), some (.adr a), none, none, none] s = some (.nx ρ3 s) ∧ ρ3[4]? = some (some (.lst [.str x, .bl true])) := by
  obtain ⟨hs1, hs2⟩ := hsum hx
  generalize hs : hsub x = sub at hs1 hs2
  have st : ∀ (i : Nat) (e : E) (r : List (Nat × E)) (ρ : Env) (d : D), ev (CTH a sub) e ρ s = some (.ok d s) → hotS (CTH a sub) ((i, e) :: r) ρ s = hotS (CTH a sub) r (ρ.set i (some d)) s := fun i e r ρ d h => by
    show sbd ρ (ev (CTH a sub) e ρ s) (fun x s1 => hotS (CTH a sub) r (ρ.set i (some x)) s1) = _
    rw [h, sbd_ok']
  unfold hhl
  rw [st _ _ _ _ _ (lst2 (hrow_ok rfl) (hrow_ok rfl)), List.set_cons_succ]
  rw [st _ _ _ _ _ (add2 (var_s rfl) (lst1 (hrow_ok rfl)) (by simp))]
  rw [st _ _ _ _ _ (add2 (var_s rfl) (lst1 (hrow_ok rfl)) (by simp))]
  rw [st _ _ _ _ _ (add2 (var_s rfl) (lst2 (hrow_ok rfl) (hrow_ok rfl)) (by simp))]
  rw [st _ _ _ _ _ (add2 (var_s rfl) (lst2 (hrow_ok rfl) (hrow_ok rfl)) (by simp))]
  have hc := hcomp (a := a) (sub := sub) (s := s) (ρ := [none, some d1, some d2, some d3, some (.lst []), some (.adr a), some (.lst (([("InvalidJob", 0), ("InvalidPlan", 1), ("InvalidPages", 2), ("InvalidNumber", 3), ("InvalidWord", 4), ("InvalidSeen", 5), ("TooMany", 6), ("NothingToUndo", 7)] : List (Str × Nat)).map fun p => .tup [.str p.1, .bl (sub p.2)])), none, none]) [("InvalidJob", 0), ("InvalidPlan", 1), ("InvalidPages", 2), ("InvalidNumber", 3), ("InvalidWord", 4), ("InvalidSeen", 5), ("TooMany", 6), ("NothingToUndo", 7)] (by simp)
  rw [hs1] at hc
  have hcv : ev (CTH a sub) (.comp [7, 8] (.ttp (.cons (.tnm 7) (.cons (.tnm 8) .nil))) (.var 7) (.itl (.var 6)) (.var 8)) [none, some d1, some d2, some d3, some (.lst []), some (.adr a), some (.lst (([("InvalidJob", 0), ("InvalidPlan", 1), ("InvalidPages", 2), ("InvalidNumber", 3), ("InvalidWord", 4), ("InvalidSeen", 5), ("TooMany", 6), ("NothingToUndo", 7)] : List (Str × Nat)).map fun p => .tup [.str p.1, .bl (sub p.2)])), none, none] s = some (.ok (.lst [.str x]) s) := by
    exact ev_comp_l rfl hc (by simp)
  refine ⟨_, (st _ _ _ _ _ (add2 hcv (lst1 (e1 := .call 8 (.cons (.var 5) .nil)) (a := .bl (sub 8)) ?_) (by simp))).trans rfl, ?_⟩
  · show bnd (bnd (ev (CTH a sub) (.var 5) _ s) fun x s1 => bnd (some (.ok [] s1)) fun xs s2 => some (.ok (x :: xs) s2)) (fun xs s1 => CTH a sub 8 xs s1) = _
    rw [var_s (d := .adr a) rfl]
    exact cth_ok
  · rw [hs2]
    rfl
end EV

set_option maxHeartbeats 2000000
/-! a lambda of a, b, c: made, called -/
namespace EV
open PySem PySem.Spec PyProof.Rows L2
section
variable {CX : CXT} {P : Program} {w : World} {K : PySem.W.Frag} {mg : Str → Option Value} {base : Heap} {k : Nat} {f c' : Addr} {q : Str} {params : Arguments} {body : Expr} {sc : Scope} {pm ct : Value}
/-- the lambda at f is called -/
theorem lam_code {A : Around} {outer : List PySem.Env} {s : Shared} {H : Hp} {us : List Value} {vs : List V} {Q : VK} {E : XK} (hr : Room (k + 1) A) (e0 : Env0 P w K mg base A outer s H) (ho : s.heap.get? f = some (lamO q params body sc pm c' ct))
    (hc : H c' = some (LamX.CodeO c' q)) (hp : lamPar params = true) (S : FnScope lamNs lamNs sc) (hl : vs.length = 3) (r : Vals vs us)
    (hb : Room k (A.deeper (envOfC q sc s.heap.objs.size f (.ref c'))) → ∃ t, PE (cxOf CX P w K mg base lamNs q sc f (.ref c') A outer s H E) body t ∧ t (L2.start lamNs vs) H Q) :
    codeAny (model P w) A (.call (.ref f) ⟨us, []⟩) (CR CX outer P w H s Q E) s := by
  have lim : s.heap.NoLimit := e0.mod.nolimit.keeps fun b o e => (e0.bs b o e).1
  obtain ⟨⟨oc, fs, t, g1, g2, g3⟩, _, _⟩ := e0.hok c' _ hc
  have hlu : us.length = 3 := by rw [← r.length, hl]
  refine PySem.W.kla_callFunE hr.depth ho rfl S.co S.gen rfl ⟨c', oc, fs, t, rfl, g1, g2, g3⟩ ?_
  match us, hlu with
  | [u1, u2, u3], _ =>
  rw [lam_bind hp]
  have kinds : ∀ y ∈ lamNs.zip [u1, u2, u3], sc.names.lookup y.1 = some .local ∨ (sc.names.lookup y.1 = some .cell ∧ ((cellsFrom (s.heap.objs.size + 1) sc.names []).lookup y.1).isSome = true) := fun ⟨n, v⟩ hy => by
    rcases S.par n (List.of_mem_zip hy).1 with z | z
    · exact .inl z
    · exact .inr ⟨z, PySem.W.cellsFrom_some _ _ _ (.inl z)⟩
  refine wpAny_pure (wpAny_newFunctionEnv_cells S.kind kinds fun env he s1 x => ?_)
  subst he
  refine ⟨lim.keeps x.toInCall.keep, ?_⟩
  obtain ⟨tb, h1, h2⟩ := hb (hr.deeper _)
  have I : Inv (cxOf CX P w K mg base lamNs q sc f (.ref c') A outer s H E) [] (L2.start lamNs vs) H s1 := inv_start S hr.hd e0 hl r x
  refine PySem.W.kla_codeExpr (wpAny_mono (h1.run [] s1 (L2.start lamNs vs) H Q I h2) (fun u s' z => ?_) fun _ _ z => z)
  obtain ⟨v, H', J, rv, z⟩ := z
  exact ⟨v, H', J.os, J.bare, J.base, J.hok, rv, z⟩
end
end EV
namespace L2
open PySem PySem.Spec PyProof.Rows
/-- call(..), the slot holds the lambda at f -/
theorem pe_callLam {X : Cx} {CX : CXT} {i : Nat} {f c' : Addr} {q : Str} {sp : Sp} {E : St → XK} {x : Str} {p pos : Pos} {e : Expr} {es : List Expr} {t : TA} {params : Arguments} {body : Expr} {sc : Scope} {pm ct : Value}
    (ho : X.s_0.heap.get? f = some (EV.lamO q params body sc pm c' ct)) (hn : X.H_0 f = none) (hf : f ∉ X.fs) (hex : f ∉ X.ex)
    (F : ∀ (s : Shared) (H : Hp) (us : List Value) (vs : List V) (Q : VK) (E : XK), Env0 X.prog X.w X.K X.mg X.base X.A X.stack s H → s.heap.get? f = some (EV.lamO q params body sc pm c' ct) → H c' = some (LamX.CodeO c' q) → Vals vs us → sp vs H Q E →
      codeAny (model X.prog X.w) X.A (.call (.ref f) ⟨us, []⟩) (CR CX X.stack X.prog X.w H s Q E) s)
    (hN : X.N[i]? = some x) (hv : Vis X.env.scope x) (hx : ∀ σ, PassesAt CX X σ (E σ)) (ha : PA X (e :: es) t) (hdb : (x == ("__debug__" : Str)) = false) (hcd : (x == ("__classdict__" : Str)) = false)
    (he : starEach (e :: es) X.env = (false, eval e X.env) :: starEach es X.env) (hpl : (backTo pos (starEach es X.env)).any (·.1) = false) :
    PE X (.Call (.Name x p) (e :: es) [] pos) (tCallSlt i f (fun vs H Q E => H c' = some (LamX.CodeO c' q) ∧ sp vs H Q E) E t) := by
  refine ⟨fun pins s σ H Q I h => ?_⟩
  obtain ⟨hs, ht⟩ := h
  refine wpAny_Call_Name_kw (thn ((pe_var (pos := p) hN hv hdb hcd).run pins s σ H (fun v H1 => v = .ref f ∧ H1 = H) I ⟨.ref f, hs, rfl, rfl⟩) fun u s1 ⟨v, H1, I1, r1, q1⟩ => ?_)
  obtain ⟨rfl, rfl⟩ := q1
  cases r1
  have at_ : ∀ {pins σ H s}, Inv X pins σ H s → s.heap.get? f = some (EV.lamO q params body sc pm c' ct) := fun J => J.base.keep f _ ho hn hf hex
  refine PySem.W.callWith_F ⟨_, _, _, _, at_ I1⟩ (thn (ha.run pos pins s1 σ _ _ I1 ht) fun us s2 ⟨vs, H2, I2, r, z1, z2⟩ => ⟨⟨_, _, _, _, at_ I2⟩, ?_⟩) he hpl
  refine wpAny_call (codeAny_mono (F s2 H2 us vs Q (E σ) I2.env0 (at_ I2) z1 r z2) fun rr s' hq => ?_)
  cases rr with
  | error e => exact hx σ pins H2 s2 e s' I2 hq
  | ok fl =>
    cases fl with
    | ret u => exact I2.after hq
    | next => exact hq.elim
    | brk => exact hq.elim
    | cont => exact hq.elim
end L2

set_option maxHeartbeats 1000000
/-! defs -/
namespace EV
open PySem PySem.Spec PyProof.Rows L2
section
variable {C : Ct} {m m1 m' : Pl} {H H1 H' : Hp} {s s1 s2 : Sto} {ρ : Env} {σ : L2.St} {K : PySem.W.Frag} {L : Nat}
mutual
theorem below_of (n : Nat) : ∀ d : D, noloc d = true → below n d
  | .non, _ => True.intro
  | .bl _, _ => True.intro
  | .int _, _ => True.intro
  | .str _, _ => True.intro
  | .tup xs, h => belows_of n xs h
  | .lst xs, h => belows_of n xs h
  | .scr _, _ => True.intro
  | .adr _, _ => True.intro
  | .gf _ _, _ => True.intro
  | .loc k, h => by cases h
theorem belows_of (n : Nat) : ∀ ds : List D, nolocs ds = true → belows n ds
  | [], _ => True.intro
  | x :: xs, h => by
    have h' : (noloc x && nolocs xs) = true := h
    rw [Bool.and_eq_true] at h'
    exact ⟨below_of n x h'.1, belows_of n xs h'.2⟩
end
theorem belows_all {n : Nat} : ∀ {ds : List D}, (∀ d ∈ ds, below n d) → belows n ds
  | [], _ => True.intro
  | x :: xs, h => ⟨h x List.mem_cons_self, belows_all fun d hd => h d (List.mem_cons_of_mem _ hd)⟩
theorem belows_mem {n : Nat} : ∀ {ds : List D}, belows n ds → ∀ d ∈ ds, below n d
  | [], _, d, h => by cases h
  | x :: xs, h, d, hd => (List.mem_cons.mp hd).elim (fun e => by rw [e]; exact h.1) fun z => belows_mem h.2 d z
theorem RKs.rds : ∀ {ds : List (Key × D)} {vs : List (Key × V)}, RKs K m H ds vs → RDs K m H (ds.map (·.2)) (vs.map (·.2))
  | [], vs, h => by
    rw [show vs = [] from h]
    exact (rfl : ([] : List V) = [])
  | (k, x) :: xs, vs, h => by
    obtain ⟨v, r, rfl, h1, h2⟩ := h
    exact ⟨v, _, rfl, h1, RKs.rds h2⟩
theorem RKs.cut {t : List Addr} (e0 : m1.a = m.a ++ t) (eh : m1.h = m.h) : ∀ (ds : List (Key × D)) (vs : List (Key × V)), belows m.a.length (ds.map (·.2)) → RKs K m1 H ds vs → RKs K m H ds vs
  | [], vs, _, h => h
  | (k, x) :: xs, vs, b, h => by
    obtain ⟨v, r, e, h1, h2⟩ := h
    exact ⟨v, r, e, RD.cut e0 eh x v b.1 h1, RKs.cut e0 eh xs r b.2 h2⟩
theorem RFs.rds : ∀ {ds : List (Str × D)} {vs : List (Str × V)}, RFs K m H ds vs → RDs K m H (ds.map (·.2)) (vs.map (·.2))
  | [], vs, h => by
    rw [show vs = [] from h]
    exact (rfl : ([] : List V) = [])
  | (k, x) :: xs, vs, h => by
    obtain ⟨v, r, rfl, h1, h2⟩ := h
    exact ⟨v, _, rfl, h1, RFs.rds h2⟩
theorem RFs.cut {t : List Addr} (e0 : m1.a = m.a ++ t) (eh : m1.h = m.h) : ∀ (ds : List (Str × D)) (vs : List (Str × V)), belows m.a.length (ds.map (·.2)) → RFs K m1 H ds vs → RFs K m H ds vs
  | [], vs, _, h => h
  | (k, x) :: xs, vs, b, h => by
    obtain ⟨v, r, e, h1, h2⟩ := h
    exact ⟨v, r, e, RD.cut e0 eh x v b.1 h1, RFs.cut e0 eh xs r b.2 h2⟩
theorem CellR.below {a : Addr} {c : Cell} (h : CellR K m H a c) : ∀ d ∈ c.data, below m.a.length d := by
  cases c with
  | lst xs =>
    obtain ⟨vs, _, r⟩ := h
    exact belows_mem (RDs.belows _ _ r)
  | dct kvs =>
    obtain ⟨vs, _, r⟩ := h
    exact belows_mem (RDs.belows _ _ r.rds)
  | ins fs =>
    obtain ⟨_, vs, _, r, _⟩ := h
    exact belows_mem (RDs.belows _ _ r.rds)
theorem CellR.cut {t : List Addr} {a : Addr} {c : Cell} (e0 : m1.a = m.a ++ t) (eh : m1.h = m.h) (b : ∀ d ∈ c.data, EV.below m.a.length d) (h : CellR K m1 H a c) : CellR K m H a c := by
  cases c with
  | lst xs =>
    obtain ⟨vs, h1, r⟩ := h
    exact ⟨vs, h1, RDs.cut e0 eh _ _ (belows_all b) r⟩
  | dct kvs =>
    obtain ⟨vs, h1, r⟩ := h
    exact ⟨vs, h1, RKs.cut e0 eh _ _ (belows_all b) r⟩
  | ins fs =>
    obtain ⟨dx, vs, h1, r, h3⟩ := h
    exact ⟨dx, vs, h1, RFs.cut e0 eh _ _ (belows_all b) r, h3⟩
/-- what a call made is taken out of the store -/
theorem trunc (S0 : SRel K m s H) (t : Step s.length m s H m' s1 H') (S : SRel K m' s1 H') (hL : L ≤ s.length) : Step L m s H m (s1.take s.length) H' ∧ SRel K m (s1.take s.length) H' := by
  obtain ⟨tt, e0⟩ := t.later.pre
  have eh := t.later.hid
  have hsl := t.slen
  constructor
  · refine ⟨⟨⟨[], by simp⟩, rfl, fun a o e n q => ⟨(t.later.keep a o e n q).1, n⟩, t.later.hold⟩, by rw [List.length_take]; omega, fun n hn c' h => ?_⟩
    rw [List.getElem?_take_of_lt (by omega)] at h
    exact t.kept n (by omega) c' h
  · refine ⟨by rw [List.length_take, S0.len]; omega, S0.nd, fun n c h => ?_, fun z hz => ?_, S.tab⟩
    · have hn : n < s.length := by
        have := (List.getElem?_eq_some_iff.mp h).1
        rw [List.length_take] at this
        omega
      rw [List.getElem?_take_of_lt hn] at h
      obtain ⟨a, h1, h2⟩ := S.cell n c h
      have hn' : n < m.a.length := by rw [S0.len]; exact hn
      rw [e0, List.getElem?_append_left hn'] at h1
      refine ⟨a, h1, h2.cut e0 eh fun d hd => ?_⟩
      obtain ⟨c0, h3, h4⟩ := t.kept n hn c h
      rcases h4 d hd with q | q
      · exact below_of _ d q
      · obtain ⟨b, _, h6⟩ := S0.cell n c0 h3
        exact h6.below d q
    · obtain ⟨h1, h2⟩ := S.hid z (by rw [eh]; exact hz)
      exact ⟨fun q => h1 (by rw [e0]; exact List.mem_append_left _ q), h2⟩
theorem freeze_ok {d d' : D} {v : V} (S0 : SRel K m s H) (t : Step s.length m s H m' s1 H') (S : SRel K m' s1 H') (r : RD K m' H' d v) (e : freeze s.length s1 d = some d') : RD K m H' d' v := by
  obtain ⟨tt, e0⟩ := t.later.pre
  have eh := t.later.hid
  unfold freeze at e
  split at e
  · rename_i n
    split at e
    · rename_i hn
      cases e
      exact RD.cut e0 eh _ _ (show n < m.a.length by rw [S0.len]; exact hn) r
    · rename_i hn
      split at e
      · rename_i xs hx
        split at e
        · rename_i hz
          cases e
          obtain ⟨a, e1, h1⟩ := r
          obtain ⟨c, h2, h3⟩ := S.at h1
          rw [hx] at h2
          cases h2
          obtain ⟨vs, h4, h5⟩ := h3
          refine ⟨a, vs, e1, fun z => ?_, h4, RDs.cut e0 eh _ _ (belows_of _ _ hz) h5⟩
          rcases z with z | z
          · obtain ⟨k, hk⟩ := List.getElem?_of_mem z
            have hkl := (List.getElem?_eq_some_iff.mp hk).1
            have h6 : m'.a[k]? = some a := by rw [e0, List.getElem?_append_left hkl]; exact hk
            have := nd_ix S.nd h1 h6
            rw [S0.len] at hkl
            omega
          · exact (S.hid a (by rw [eh]; exact z)).1 (List.mem_of_getElem? h1)
        · cases e
      · cases e
  · split at e
    · rename_i hz
      cases e
      exact RD.cut e0 eh _ _ (below_of _ _ hz) r
    · cases e
theorem start_get {N : List Str} {vs : List V} {ds : List D} {k : Nat} (r : RDs K m H ds vs) {i : Nat} {d : D} (h : (ds.map some ++ List.replicate k none)[i]? = some (some d)) : ∃ v, (L2.start N vs)[i]? = some (some v) ∧ RD K m H d v := by
  by_cases hi : i < ds.length
  · rw [List.getElem?_append_left (by simpa using hi), List.getElem?_map] at h
    cases e : ds[i]? with
    | none =>
      rw [e] at h
      cases h
    | some d' =>
      rw [e] at h
      cases h
      obtain ⟨v, h1, h2⟩ := r.get e
      refine ⟨v, ?_, h2⟩
      unfold L2.start
      rw [List.getElem?_append_left (by rw [List.length_map, ← r.length]; exact hi), List.getElem?_map, h1]
      rfl
  · rw [List.getElem?_append_right (by simpa using hi), List.getElem?_replicate] at h
    split at h <;> cases h

/-- what a body run hands back -/
def spR (K : PySem.W.Frag) (ca : Nat → Addr) (CT : CTb) (F : Fn) : Sp := fun vs H Q E =>
  ∃ (L : Nat) (m : Pl) (s : Sto) (ds : List D), L ≤ s.length ∧ SRel K m s H ∧ RDs K m H ds vs ∧ PX K ca L (RD K) m s H (run CT F ds s) Q E
theorem run_len {ca : Nat → Addr} {CT : CTb} {F : Fn} {L : Nat} {m : Pl} {s : Sto} {H : Hp} {ds : List D} {Q : VK} {E : XK} (h : PX K ca L (RD K) m s H (run CT F ds s) Q E) : ds.length = F.np := by
  unfold run at h
  split at h
  · assumption
  · exact h.elim
/-- THE RULE for a def's body -/
theorem body_ok {T : Tb} {X : Tx} {CT : CTb} {F : Fn} {P : Program} {w : World} {mg : Str → Option Value} {base : Heap} {k : Nat} {f : Addr} {qual : Str} {body : List Stmt} {scope : Scope} {cdv : Value}
    {N : List Str} {ca : Nat → Addr} (hns : N.length = F.ns) (hchk : chkB T X N F.body scope body = true)
    (G : ∀ (A : Around) (outer : List PySem.Env) (s0 : Shared) (H : Hp) (E : XK) (L : Nat), Room k (A.deeper (envOfC qual scope s0.heap.objs.size f cdv)) → GS T X CT ⟨cxOf (L2N.CX P w) P w K mg base N qual scope f cdv A outer s0 H E, L, fun cls d _ H => E cls d H, ca⟩)
    (A : Around) (outer : List PySem.Env) (s0 : Shared) (H : Hp) (vs : List V) (Q : VK) (E : XK) (hr : Room k (A.deeper (envOfC qual scope s0.heap.objs.size f cdv))) (hq : spR K ca CT F vs H Q E) :
    ∃ t, PSs (cxOf (L2N.CX P w) P w K mg base N qual scope f cdv A outer s0 H E) body t ∧ t { nx := fun _ H' => Q .non H', rt := Q } (L2.start N vs) H := by
  obtain ⟨L, m, s, ds, hL, SR, rd, hP⟩ := hq
  · have hl := run_len hP
    refine ⟨_, (chds F.body).blk ⟨cxOf (L2N.CX P w) P w K mg base N qual scope f cdv A outer s0 H E, s.length, fun cls d _ H => E cls d H, ca⟩ scope body (G A outer s0 H E s.length hr) rfl rfl hchk, ?_⟩
    refine ⟨ds.map some ++ List.replicate (F.ns - F.np) none, m, s, ⟨SR, Nat.le_refl _, ?_, fun i d h => start_get rd h⟩, ?_⟩
    · unfold L2.start
      simp only [List.length_append, List.length_map, List.length_replicate]
      rw [← rd.length, hl, hns]
    · unfold run at hP
      rw [if_pos hl] at hP
      have stepU : ∀ {m' : Pl} {s1 : Sto} {H' : Hp}, Step s.length m s H m' s1 H' → Step L m s H m' s1 H' := fun t => t.mono hL
      have finU : ∀ (s1 : Sto) (d : D), PX K ca L (RD K) m s H (fin F.fz s.length s1 d) Q E → ∀ m' H' v, Step s.length m s H m' s1 H' → SRel K m' s1 H' → RD K m' H' d v → Q v H' := fun s1 d h m' H' v t S1 r => by
        unfold fin at h
        split at h
        · split at h
          · rename_i d' e
            obtain ⟨t1, t2⟩ := trunc SR t S1 hL
            exact h m H' v t1 t2 (freeze_ok SR t S1 r e)
          · exact h.elim
        · exact h m' H' v (stepU t) S1 r
      show PSO K ca s.length (fun cls d _ H => E cls d H) m s H (ex CT s.length F.body (ds.map some ++ List.replicate (F.ns - F.np) none) s) _
      match e : ex CT s.length F.body (ds.map some ++ List.replicate (F.ns - F.np) none) s with
      | none =>
        rw [e] at hP
        exact (show False from hP).elim
      | some (.ret d s1) =>
        rw [e] at hP
        exact finU s1 d hP
      | some (.nx ρ s1) =>
        rw [e] at hP
        exact fun σ' m' H' t R => finU s1 .non hP m' H' .non t R.sr rfl
      | some (.exc j ρ s1) =>
        rw [e] at hP
        intro σ' m' H' t R
        have hP : PX K ca L (RD K) m s H (some (.exc j (if F.fz then s1.take s.length else s1))) Q E := hP
        split at hP
        · obtain ⟨t1, t2⟩ := trunc SR t R.sr hL
          exact hP m H' t1 t2
        · exact hP m' H' (stepU t) R.sr
/-- .. for the body of __init__ -/
def spRI (K : PySem.W.Frag) (ca : Nat → Addr) (CT : CTb) (F : Fn) : Sp := fun vs H Q E =>
  ∃ (L : Nat) (m : Pl) (s : Sto) (ds : List D), L + 1 ≤ s.length ∧ SRel K m s H ∧ RDs K m H ds vs ∧ PX K ca L (RD K) m s H (runI CT F ds s) Q E
theorem runI_len {ca : Nat → Addr} {CT : CTb} {F : Fn} {L : Nat} {m : Pl} {s : Sto} {H : Hp} {ds : List D} {Q : VK} {E : XK} (h : PX K ca L (RD K) m s H (runI CT F ds s) Q E) : ds.length = F.np ∧ F.fz = false := by
  unfold runI at h
  split at h
  · assumption
  · exact h.elim
theorem body_okI {T : Tb} {X : Tx} {CT : CTb} {F : Fn} {P : Program} {w : World} {mg : Str → Option Value} {base : Heap} {k : Nat} {f : Addr} {qual : Str} {body : List Stmt} {scope : Scope} {cdv : Value}
    {N : List Str} {ca : Nat → Addr} (hns : N.length = F.ns) (hchk : chkB T X N F.body scope body = true)
    (G : ∀ (A : Around) (outer : List PySem.Env) (s0 : Shared) (H : Hp) (E : XK) (L : Nat), Room k (A.deeper (envOfC qual scope s0.heap.objs.size f cdv)) → GS T X CT ⟨cxOf (L2N.CX P w) P w K mg base N qual scope f cdv A outer s0 H E, L, fun cls d _ H => E cls d H, ca⟩)
    (A : Around) (outer : List PySem.Env) (s0 : Shared) (H : Hp) (vs : List V) (Q : VK) (E : XK) (hr : Room k (A.deeper (envOfC qual scope s0.heap.objs.size f cdv))) (hq : spRI K ca CT F vs H Q E) :
    ∃ t, PSs (cxOf (L2N.CX P w) P w K mg base N qual scope f cdv A outer s0 H E) body t ∧ t { nx := fun _ H' => Q .non H', rt := Q } (L2.start N vs) H := by
  obtain ⟨L, m, s, ds, hL, SR, rd, hP⟩ := hq
  obtain ⟨hl, hf⟩ := runI_len hP
  refine ⟨_, (chds F.body).blk ⟨cxOf (L2N.CX P w) P w K mg base N qual scope f cdv A outer s0 H E, s.length - 1, fun cls d _ H => E cls d H, ca⟩ scope body (G A outer s0 H E (s.length - 1) hr) rfl rfl hchk, ?_⟩
  refine ⟨ds.map some ++ List.replicate (F.ns - F.np) none, m, s, ⟨SR, Nat.sub_le _ _, ?_, fun i d h => start_get rd h⟩, ?_⟩
  · unfold L2.start
    simp only [List.length_append, List.length_map, List.length_replicate]
    rw [← rd.length, hl, hns]
  · unfold runI at hP
    rw [if_pos ⟨hl, hf⟩] at hP
    have stepU : ∀ {m' : Pl} {s1 : Sto} {H' : Hp}, Step (s.length - 1) m s H m' s1 H' → Step L m s H m' s1 H' := fun t => t.mono (by omega)
    show PSO K ca (s.length - 1) (fun cls d _ H => E cls d H) m s H (ex CT (s.length - 1) F.body (ds.map some ++ List.replicate (F.ns - F.np) none) s) _
    match e : ex CT (s.length - 1) F.body (ds.map some ++ List.replicate (F.ns - F.np) none) s with
    | none =>
      rw [e] at hP
      exact (show False from hP).elim
    | some (.ret d s1) =>
      rw [e] at hP
      exact fun m' H' v t S1 r => hP m' H' v (stepU t) S1 r
    | some (.nx ρ s1) =>
      rw [e] at hP
      exact fun σ' m' H' t R => hP m' H' .non (stepU t) R.sr rfl
    | some (.exc j ρ s1) =>
      rw [e] at hP
      exact fun σ' m' H' t R => hP m' H' (stepU t) R.sr
theorem fn_okI {T : Tb} {X : Tx} {CT CT1 : CTb} {F : Fn} {f0 : Nat} {P : Program} {w : World} {mg : Str → Option Value} {base : Heap} {k : Nat} {f : Addr} {name qual : Str} {params : Arguments} {body : List Stmt} {scope : Scope} {dV kV doc pm cdv ct oc : Value} {an od : Option Addr}
    {osl : Array (Option Value)} {N ps : List Str} {ca : Nat → Addr} {dds : List D} (lk : K.lookup f = some ⟨oc, od, .func (PySem.W.fnOf name qual params body scope dV kV doc pm an cdv ct), osl⟩) (hcd : PySem.W.codeIn K cdv qual = true) (S : FnScope N ps scope)
    (hnp : ps.length = F.np) (hns : N.length = F.ns) (hchk : chkB T X N F.body scope body = true) (hrun : ∀ ds s, CT1 f0 ds s = runI CT F (ds ++ dds) s)
    (G : ∀ (A : Around) (outer : List PySem.Env) (s0 : Shared) (H : Hp) (E : XK) (L : Nat), Room k (A.deeper (envOfC qual scope s0.heap.objs.size f cdv)) → GS T X CT ⟨cxOf (L2N.CX P w) P w K mg base N qual scope f cdv A outer s0 H E, L, fun cls d _ H => E cls d H, ca⟩) :
    FnOk P w K mg base (L2N.CX P w) (k + 1) f (PySem.W.fnOf name qual params body scope dV kV doc pm an cdv ct) ps (spI K ca CT1 f0 dds) := by
  have e : ∀ vs H Q E, spI K ca CT1 f0 dds vs H Q E → spRI K ca CT F vs H Q E := fun vs H Q E ⟨L, m, s, ds, hL, SR, rd, hP⟩ => ⟨L, m, s, ds ++ dds, hL, SR, rd, by rw [← hrun]; exact hP⟩
  refine fn_of lk hcd S (fun vs H Q E hq => ?_) fun A outer s0 H vs Q E hr hq => body_okI hns hchk G A outer s0 H vs Q E hr (e _ _ _ _ hq)
  obtain ⟨L, m, s, ds, hL, SR, rd, hP⟩ := e _ _ _ _ hq
  rw [← rd.length, (runI_len hP).1, hnp]
/-- THE RULE for defs -/
theorem fn_ok {T : Tb} {X : Tx} {CT CT1 : CTb} {F : Fn} {f0 : Nat} {P : Program} {w : World} {mg : Str → Option Value} {base : Heap} {k : Nat} {f : Addr} {name qual : Str} {params : Arguments} {body : List Stmt} {scope : Scope} {dV kV doc pm cdv ct oc : Value} {an od : Option Addr}
    {osl : Array (Option Value)} {N ps : List Str} {ca : Nat → Addr} (lk : K.lookup f = some ⟨oc, od, .func (PySem.W.fnOf name qual params body scope dV kV doc pm an cdv ct), osl⟩) (hcd : PySem.W.codeIn K cdv qual = true) (S : FnScope N ps scope)
    (hnp : ps.length = F.np) (hns : N.length = F.ns) (hchk : chkB T X N F.body scope body = true) (hrun : ∀ ds s, CT1 f0 ds s = run CT F ds s)
    (G : ∀ (A : Around) (outer : List PySem.Env) (s0 : Shared) (H : Hp) (E : XK) (L : Nat), Room k (A.deeper (envOfC qual scope s0.heap.objs.size f cdv)) → GS T X CT ⟨cxOf (L2N.CX P w) P w K mg base N qual scope f cdv A outer s0 H E, L, fun cls d _ H => E cls d H, ca⟩) :
    FnOk P w K mg base (L2N.CX P w) (k + 1) f (PySem.W.fnOf name qual params body scope dV kV doc pm an cdv ct) ps (spF K ca CT1 f0) := by
  have e : ∀ vs H Q E, spF K ca CT1 f0 vs H Q E → spR K ca CT F vs H Q E := fun vs H Q E ⟨L, m, s, ds, hL, SR, rd, hP⟩ => ⟨L, m, s, ds, hL, SR, rd, by rw [← hrun]; exact hP⟩
  refine fn_of lk hcd S (fun vs H Q E hq => ?_) fun A outer s0 H vs Q E hr hq => body_ok hns hchk G A outer s0 H vs Q E hr (e _ _ _ _ hq)
  obtain ⟨L, m, s, ds, hL, SR, rd, hP⟩ := e _ _ _ _ hq
  rw [← rd.length, run_len hP, hnp]
/-- .. for defs f(a, .., *r) -/
theorem fn_okV {T : Tb} {X : Tx} {CT CT1 : CTb} {F : Fn} {f0 kf : Nat} {P : Program} {w : World} {mg : Str → Option Value} {base : Heap} {k : Nat} {f : Addr} {name qual : Str} {params : Arguments} {body : List Stmt} {scope : Scope} {dV kV doc pm cdv ct oc : Value} {an od : Option Addr}
    {osl : Array (Option Value)} {N ps : List Str} {pv : Str} {ca : Nat → Addr} (lk : K.lookup f = some ⟨oc, od, .func (PySem.W.fnOf name qual params body scope dV kV doc pm an cdv ct), osl⟩) (hcd : PySem.W.codeIn K cdv qual = true) (S : FnScope N (ps ++ [pv]) scope)
    (hnp : ps.length = kf) (hns : N.length = F.ns) (hchk : chkB T X N F.body scope body = true) (hrun : ∀ ds s, CT1 f0 ds s = if kf ≤ ds.length ∧ (ds.drop kf).length ≤ sizeLine then run CT F (ds.take kf ++ [.tup (ds.drop kf)]) s else none)
    (hb : ∀ us rest : List Value, us.length = ps.length → bindArgs (PySem.W.fnOf name qual params body scope dV kV doc pm an cdv ct) ⟨us ++ rest, []⟩ = (newTuple rest >>= fun t => pure (ps.zip us ++ [(pv, t)])))
    (G : ∀ (A : Around) (outer : List PySem.Env) (s0 : Shared) (H : Hp) (E : XK) (L : Nat), Room k (A.deeper (envOfC qual scope s0.heap.objs.size f cdv)) → GS T X CT ⟨cxOf (L2N.CX P w) P w K mg base N qual scope f cdv A outer s0 H E, L, fun cls d _ H => E cls d H, ca⟩) :
    FnR P w K mg base (L2N.CX P w) (k + 1) f (spF K ca CT1 f0) := by
  refine (StX.fn_star (sp := spR K ca CT F) lk hcd S cxUpN hb fun A outer s0 H vs Q E hr hq => body_ok hns hchk G A outer s0 H vs Q E hr hq).imp fun vs H Q E ⟨L, m, s, ds, hL, SR, rd, hP⟩ => ?_
  rw [hrun] at hP
  split at hP
  · rename_i hc
    have hlen := rd.length
    refine ⟨vs.take kf, vs.drop kf, (List.take_append_drop _ _).symm, by rw [List.length_take, hnp]; omega, by rw [List.length_drop, ← hlen, ← List.length_drop]; exact hc.2, fun p hp => ?_⟩
    have t : Step L m s H m s (upd H p (.tup (vs.drop kf))) := Step.new hp
    refine ⟨L, m, s, ds.take kf ++ [.tup (ds.drop kf)], hL, SR.new hp, ?_, ?_⟩
    · have r1 : RDs K m (upd H p (.tup (vs.drop kf))) (ds.take kf) (vs.take kf) := RDs.later t.later _ _ (rd.take kf)
      have r2 : RDs K m (upd H p (.tup (vs.drop kf))) (ds.drop kf) (vs.drop kf) := RDs.later t.later _ _ (rd.drop kf)
      exact r1.append ⟨.ref p, [], rfl, ⟨p, _, rfl, SqT.of upd_same, r2⟩, rfl⟩
    · revert hP
      generalize run CT F (ds.take kf ++ [.tup (ds.drop kf)]) s = o
      intro hP
      match o, hP with
      | some (.ok a s'), hP => exact fun m' H' b h1 h2 h3 => hP m' H' b (t.trans h1) h2 h3
      | some (.exc a s'), hP => exact fun m' H' h1 h2 => hP m' H' (t.trans h1) h2
      | none, hP => exact hP.elim
  · exact (show False from hP).elim
/-- .. for generator defs -/
theorem gen_ok {T : Tb} {CT CT1 : CTb} {F : Fn} {f0 : Nat} {P : Program} {w : World} {mg : Str → Option Value} {base : Heap} {k : Nat} {f : Addr} {name qual : Str} {params : Arguments} {body : List Stmt} {scope : Scope} {dV kV doc pm cdv ct oc : Value} {an od : Option Addr}
    {osl : Array (Option Value)} {N ps : List Str} {ca : Nat → Addr} (lk : K.lookup f = some ⟨oc, od, .func (PySem.W.fnOf name qual params body scope dV kV doc pm an cdv ct), osl⟩) (hcd : PySem.W.codeIn K cdv qual = true) (S : GScope N ps scope)
    (hnp : ps.length = F.np) (hns : N.length = F.ns) (hfz : F.fz = true) (hchk : chkG T N F.body scope body = true) (hrun : ∀ ds s, CT1 f0 ds s = run CT F ds s) (hb : Binds K (PySem.W.fnOf name qual params body scope dV kV doc pm an cdv ct) ps [])
    (G : ∀ (A : Around) (outer : List PySem.Env) (s0 : Shared) (H : Hp) (pn : List (Addr × Obj)) (L : Nat), Room k (A.deeper (envOfC qual scope s0.heap.objs.size f cdv)) → GOk T CT ⟨gx P w K mg base N qual scope f cdv A outer s0 H pn, L, fun _ _ _ _ => False, ca⟩) :
    GnR P w K mg base (k + 1) f (spG K CT1 f0) := by
  have hlen : ∀ {ds : List D} {s : Sto} {r : Out D}, CT1 f0 ds s = some r → ds.length = F.np := fun {ds s r} e => by
    rw [hrun] at e
    unfold run at e
    split at e
    · assumption
    · cases e
  refine gnr_of lk hcd S (fun vs H Q ⟨L, m, s, ds, ys, s', hL, SR, rd, e, hQ⟩ => by rw [← rd.length, hlen e, hnp]) hb fun A outer s0 H vs Q pn hr ⟨L, m, s, ds, ys, s', hL, SR, rd, e, hQ⟩ => ?_
  have hl := hlen e
  obtain ⟨t, t1, t2⟩ := gen_body (C := ⟨gx P w K mg base N qual scope f cdv A outer s0 H pn, s.length, fun _ _ _ _ => False, ca⟩) (G A outer s0 H pn s.length hr) (fun _ _ z => z) (fun _ => rfl) S.kind rfl rfl S.co (by unfold interactive; first | rfl | (show (scope.kind == _ && _) = false; rw [S.kind]; rfl) | (simp [S.kind, envOfC])) F.body body hchk
  refine ⟨t, t1, ?_⟩
  have fl : ∀ s1 d, fin F.fz s.length s1 d = some (.ok (.lst ys) s') → s' = s1.take s.length ∧ freeze s.length s1 d = some (.lst ys) := fun s1 d z => by
    unfold fin at z
    rw [hfz, if_pos rfl] at z
    split at z
    · rename_i d' e'
      cases z
      exact ⟨rfl, e'⟩
    · cases z
  obtain ⟨d, s1, e1, e2⟩ : ∃ d s1, ex CT s.length F.body (ds.map some ++ List.replicate (F.ns - F.np) none) s = some (.ret d s1) ∧ fin F.fz s.length s1 d = some (.ok (.lst ys) s') := by
    rw [hrun] at e
    unfold run at e
    rw [if_pos hl] at e
    split at e
    · rename_i d s1 e1
      exact ⟨d, s1, e1, e⟩
    · obtain ⟨_, z⟩ := fl _ _ e
      cases z
    · cases e
    · cases e
  obtain ⟨rfl, e3⟩ := fl _ _ e2
  refine t2 _ _ m s (L2.start N vs) H d s1 ⟨SR, Nat.le_refl _, ?_, fun i d h => start_get rd h⟩ e1 fun zs hd m' H' σ' out st S1 ro => ?_
  · unfold L2.start
    simp only [List.length_append, List.length_map, List.length_replicate]
    rw [← rd.length, hl, hns]
  · subst hd
    have e4 : (if nolocs zs = true then some (D.lst zs) else none) = some (.lst ys) := e3
    split at e4
    · rename_i hz
      cases e4
      obtain ⟨u1, u2⟩ := trunc SR st S1 hL
      obtain ⟨tt, e0⟩ := st.later.pre
      exact hQ m H' out u1 u2 (RDs.cut e0 st.later.hid _ _ (belows_of _ _ hz) ro)
    · cases e4
end

/-! ### the table of a whole text -/
inductive Ent where
  | con (d : D)
  | fn (F : Fn) (dds : List D)
  | fnv (F : Fn) (kf : Nat)
  | err (f : Nat) (ks : List (List D))
  | lam (e : E)
  | erl (f : Nat) (ks : List (List D))
  | gen (F : Fn)
  | mth (k : Nat) (F : Fn) | mthv (F : Fn) (kf : Nat) | ini (w : Bool) (F : Fn) (dds : List D) | cc (d : D)   -- members of the class Pile
/-- the defs to a depth of calls -/
def cal (G : Nat → Option Ent) : Nat → CTb
  | 0, f, ds, s => match G f with
    | some (.con d) => match ds with
      | [] => some (.ok d s)
      | _ => none
    | some (.cc d) => match ds with
      | [] => some (.ok d s)
      | _ => none
    | _ => none
  | n + 1, f, ds, s => match G f with
    | some (.con d) => match ds with
      | [] => some (.ok d s)
      | _ => none
    | some (.fn F dds) => run (cal G n) F (ds ++ dds) s
    | some (.fnv F kf) => if kf ≤ ds.length ∧ (ds.drop kf).length ≤ sizeLine then run (cal G n) F (ds.take kf ++ [.tup (ds.drop kf)]) s else none
    | some (.err f' ks) => if ds.length = 3 then errO (fun j => ks[j]?) (cal G n f' ds s) else none
    | some (.lam e) => if ds.length = 3 then ev (cal G n) e (ds.map some) s else none
    | some (.erl f' ks) => if ds.length = 3 then errO (fun j => ks[j]?) (cal G n f' ds s) else none
    | some (.gen F) => (match n with
      | 0 => none
      | m + 1 => run (cal G m) F ds s)
    | some (.mth _ F) => (match n with
      | 0 => none
      | m + 1 => run (cal G m) F ds s)
    | some (.mthv F kf) => (match n with
      | 0 => none
      | m + 1 => if kf ≤ ds.length ∧ (ds.drop kf).length ≤ sizeLine then run (cal G m) F (ds.take kf ++ [.tup (ds.drop kf)]) s else none)
    | some (.ini _ F dds) => (match n with
      | 0 => none
      | m + 1 => runI (cal G m) F (ds ++ dds) s)
    | some (.cc d) => match ds with
      | [] => some (.ok d s)
      | _ => none
    | none => none
def tbOf (nm : Nat → Str) (G : Nat → Option Ent) : Tb := ⟨nm, fun i => match G i with
  | some (.con _) => true
  | _ => false, fun i => match G i with
  | some (.fn _ _) => true
  | some (.fnv _ _) => true
  | _ => false, fun i => match G i with
  | some (.err _ _) => true
  | _ => false, fun i => match G i with
  | some (.gen _) => true
  | _ => false, fun _ _ _ _ => false, hasPile, fun i => match G i with
  | some (.mth k _) => if k < 3 then some (k, nm i) else none
  | some (.mthv _ _) => some (0, nm i)
  | some (.ini w _ _) => some (if w then 4 else 3, nm i)
  | _ => none, fun i => match G i with
  | some (.cc _) => some (nm i)
  | _ => none⟩
/-- .. of a def that holds lambdas -/
def lamAt (nm : Nat → Str) (G : Nat → Option Ent) (i : Nat) (ps : Arguments) (body : Expr) (sc : Scope) : Bool :=
  match G i with
  | some (.erl f _) => match G f with
    | some (.lam e) => lamPar ps && lamSc sc && chk (tbOf nm G) lamNs e sc body
    | _ => false
  | _ => false
def tbAt (nm : Nat → Str) (G : Nat → Option Ent) (x : Str) : Tb := if lamDefs.contains x = true then { tbOf nm G with lam := lamAt nm G } else tbOf nm G
/-- what must be known of one def of the text -/
def DFact (K : PySem.W.Frag) (mg : Str → Option Value) (T : Tb) (X : Tx) (nm : Str) (F : Fn) (dds : List D) : Prop :=
  ∃ (f : Addr) (name qual : Str) (params : Arguments) (body : List Stmt) (scope : Scope) (dV kV doc pm cdv ct oc : Value) (an od : Option Addr) (osl : Array (Option Value)) (N ps : List Str) (dvs : List V) (dus : List Value),
    mg nm = some (.ref f) ∧ PySem.W.keepIn K (.ref f) = true ∧ K.lookup f = some ⟨oc, od, .func (PySem.W.fnOf name qual params body scope dV kV doc pm an cdv ct), osl⟩ ∧ PySem.W.codeIn K cdv qual = true ∧ FnScope N ps scope ∧
    ps.length = F.np ∧ N.length = F.ns ∧ chkB T X N F.body scope body = true ∧ Binds K (PySem.W.fnOf name qual params body scope dV kV doc pm an cdv ct) ps dus ∧ Vals dvs dus ∧ (∀ m H, RDs K m H dds dvs) ∧ (lamDefs.contains nm = true → qual = nm ∧ cdv = .ref (He.cT K (nm, none)).1)
/-- .. of a def f(a, .., *r) -/
def VFact (K : PySem.W.Frag) (mg : Str → Option Value) (T : Tb) (X : Tx) (nm : Str) (F : Fn) (kf : Nat) : Prop :=
  ∃ (f : Addr) (name qual : Str) (params : Arguments) (body : List Stmt) (scope : Scope) (dV kV doc pm cdv ct oc : Value) (an od : Option Addr) (osl : Array (Option Value)) (N ps : List Str) (pv : Str),
    mg nm = some (.ref f) ∧ PySem.W.keepIn K (.ref f) = true ∧ K.lookup f = some ⟨oc, od, .func (PySem.W.fnOf name qual params body scope dV kV doc pm an cdv ct), osl⟩ ∧ PySem.W.codeIn K cdv qual = true ∧ FnScope N (ps ++ [pv]) scope ∧
    ps.length = kf ∧ N.length = F.ns ∧ chkB T X N F.body scope body = true ∧
    ∀ us rest : List Value, us.length = ps.length → bindArgs (PySem.W.fnOf name qual params body scope dV kV doc pm an cdv ct) ⟨us ++ rest, []⟩ = (newTuple rest >>= fun t => pure (ps.zip us ++ [(pv, t)]))
/-- .. of a generator def -/
def GFact (K : PySem.W.Frag) (mg : Str → Option Value) (T : Tb) (nm : Str) (F : Fn) : Prop :=
  ∃ (f : Addr) (name qual : Str) (params : Arguments) (body : List Stmt) (scope : Scope) (dV kV doc pm cdv ct oc : Value) (an od : Option Addr) (osl : Array (Option Value)) (N ps : List Str),
    mg nm = some (.ref f) ∧ PySem.W.keepIn K (.ref f) = true ∧ K.lookup f = some ⟨oc, od, .func (PySem.W.fnOf name qual params body scope dV kV doc pm an cdv ct), osl⟩ ∧ PySem.W.codeIn K cdv qual = true ∧ GScope N ps scope ∧
    ps.length = F.np ∧ N.length = F.ns ∧ F.fz = true ∧ chkG T N F.body scope body = true ∧ Binds K (PySem.W.fnOf name qual params body scope dV kV doc pm an cdv ct) ps []
/-- where a member stands -/
def MAt (K : PySem.W.Frag) (x : Str) (f : Addr) : Nat → Prop
  | 0 => BMeth K (pilA K) x f
  | 1 => ∃ p, PropOf K (pilA K) x p f
  | _ => ∃ p, ClX.CMet K (pilA K) (.type "type") x p f
/-- .. of a method, a property, a classmethod -/
def MFact (K : PySem.W.Frag) (T : Tb) (X : Tx) (nm : Str) (k : Nat) (F : Fn) : Prop :=
  ∃ (f : Addr) (name qual : Str) (params : Arguments) (body : List Stmt) (scope : Scope) (dV kV doc pm cdv ct oc : Value) (an od : Option Addr) (osl : Array (Option Value)) (N ps : List Str),
    MAt K nm f k ∧ K.lookup f = some ⟨oc, od, .func (PySem.W.fnOf name qual params body scope dV kV doc pm an cdv ct), osl⟩ ∧ PySem.W.codeIn K cdv qual = true ∧ FnScope N ps scope ∧
    ps.length = F.np ∧ N.length = F.ns ∧ chkB T X N F.body scope body = true ∧ Binds K (PySem.W.fnOf name qual params body scope dV kV doc pm an cdv ct) ps []
/-- .. of a method with a star -/
def MVFact (K : PySem.W.Frag) (T : Tb) (X : Tx) (nm : Str) (F : Fn) (kf : Nat) : Prop :=
  ∃ (f : Addr) (name qual : Str) (params : Arguments) (body : List Stmt) (scope : Scope) (dV kV doc pm cdv ct oc : Value) (an od : Option Addr) (osl : Array (Option Value)) (N ps : List Str) (pv : Str),
    MAt K nm f 0 ∧ K.lookup f = some ⟨oc, od, .func (PySem.W.fnOf name qual params body scope dV kV doc pm an cdv ct), osl⟩ ∧ PySem.W.codeIn K cdv qual = true ∧ FnScope N (ps ++ [pv]) scope ∧
    ps.length = kf ∧ N.length = F.ns ∧ chkB T X N F.body scope body = true ∧
    ∀ us rest : List Value, us.length = ps.length → bindArgs (PySem.W.fnOf name qual params body scope dV kV doc pm an cdv ct) ⟨us ++ rest, []⟩ = (newTuple rest >>= fun t => pure (ps.zip us ++ [(pv, t)]))
/-- .. of __init__(self, a, *, multiple=..) -/
def IFact (K : PySem.W.Frag) (T : Tb) (X : Tx) (w : Bool) (F : Fn) (dds : List D) : Prop :=
  ∃ (f : Addr) (name qual : Str) (params : Arguments) (body : List Stmt) (scope : Scope) (dV kV doc pm cdv ct oc : Value) (an od : Option Addr) (osl : Array (Option Value)) (N ps : List Str) (gg : List Value → List Value → List Value) (gV : List V → List V → List V),
    Mk K (pilA K) f ∧ K.lookup f = some ⟨oc, od, .func (PySem.W.fnOf name qual params body scope dV kV doc pm an cdv ct), osl⟩ ∧ PySem.W.codeIn K cdv qual = true ∧ FnScope N ps scope ∧
    ps.length = F.np ∧ N.length = F.ns ∧ chkB T X N F.body scope body = true ∧ KBn K (PySem.W.fnOf name qual params body scope dV kV doc pm an cdv ct) ps 2 (if w then ["multiple"] else []) gg gV ∧
    ∀ m H ds vs zs, vs.length = 2 → zs.length = (if w then 1 else 0) → RDs K m H ds (vs ++ zs) → RDs K m H (ds ++ dds) (gV vs zs)
/-- .. of a constant of the class -/
def CCFact (K : PySem.W.Frag) (nm : Str) (d : D) : Prop := ∃ v u, ClX.CVal K (pilA K) (.type "type") nm v u ∧ ∀ m H, RD K m H d v
/-- .. of a constant -/
def CFact (K : PySem.W.Frag) (mg : Str → Option Value) (nm : Str) (d : D) : Prop := ∃ v u, mg nm = some u ∧ RelV v u ∧ ∀ m H, RD K m H d v
/-- .. of an exception's class -/
def XFact (K : PySem.W.Frag) (mg : Str → Option Value) (nm : Str) (a : Addr) : Prop :=
  ∃ bmB newId initId B, ExcBaseFacts B newId initId bmB ∧ PySem.W.excIn K a bmB newId = true ∧ mg nm = some (.ref a) ∧ PySem.W.keepIn K (.ref a) = true ∧ PySem.W.subIn K (.ref a) (.type "BaseException") = some true ∧ PySem.W.typeIn K (.ref a) = some (.type "type")
/-- .. of one class of exceptions, for _law_error -/
structure EClass (K : PySem.W.Frag) (mg : Str → Option Value) (a : Addr) (x : Str) : Prop where
  mem : x ∈ hnames
  exm : ∀ cpe, mg "PrintError" = some (.ref cpe) → PySem.W.exmOne K (.ref a) (.ref cpe) = some true
  exc : ExcC K a
  own : ∀ k, k < 8 → ∃ b, mg (hnm k) = some (.ref b) ∧ PySem.W.kitOne K (.ref a) (.ref b) = some (hsub x k)
  ve : PySem.W.kitOne K (.ref a) (.type "ValueError") = some true
/-- .. of _law_error -/
def EFact (K : PySem.W.Frag) (mg : Str → Option Value) (ca : Nat → Addr) (ks : List (List D)) : Prop :=
  ∃ (fe : Addr) (name qual : Str) (params : Arguments) (body : List Stmt) (scope : Scope) (dV kV doc pm cdv ct oc : Value) (an od : Option Addr) (osl : Array (Option Value)),
    mg "_law_error" = some (.ref fe) ∧ PySem.W.keepIn K (.ref fe) = true ∧ K.lookup fe = some ⟨oc, od, .func (PySem.W.fnOf name qual params body scope dV kV doc pm an cdv ct), osl⟩ ∧ PySem.W.codeIn K cdv qual = true ∧ FnScope NE ["call", "a", "b", "c"] scope ∧
    Binds K (PySem.W.fnOf name qual params body scope dV kV doc pm an cdv ct) ["call", "a", "b", "c"] [] ∧ chkErr hnm hhl scope body = true ∧ (∃ cpe, mg "PrintError" = some (.ref cpe)) ∧ mg "isinstance" = none ∧ mg "ValueError" = none ∧
    ∀ j k, ks[j]? = some k → ∃ x, k = [.str x, .bl true] ∧ EClass K mg (ca j) x
structure Whole (K : PySem.W.Frag) (mg : Str → Option Value) (nm : Nat → Str) (G : Nat → Option Ent) (X : Tx) (ca : Nat → Addr) : Prop where
  blt : ∀ x ∈ bltNames, mg x = none
  con : ∀ i d, G i = some (.con d) → CFact K mg (nm i) d
  fn : ∀ i F dds, G i = some (.fn F dds) → DFact K mg (tbAt nm G (nm i)) X (nm i) F dds
  fnv : ∀ i F kf, G i = some (.fnv F kf) → VFact K mg (tbOf nm G) X (nm i) F kf
  err : ∀ i f ks, G i = some (.err f ks) → EFact K mg ca ks ∧ (tbOf nm G).has f = true ∧ nm f = nm i
  erl : ∀ i f ks, G i = some (.erl f ks) → EFact K mg ca ks
  gen : ∀ i F, G i = some (.gen F) → GFact K mg (tbOf nm G) (nm i) F
  bs : ∀ i F dds, G i = some (.fn F dds) → ∃ j, G j = some (.fn F []) ∧ nm j = nm i
  exc : ∀ k, X.isX k = true → XFact K mg (X.xn k) (ca k)
  gf : ∀ q ∈ gfs, (tbOf nm G).has q.1 = true ∧ nm q.1 = q.2 ∧ mg q.2 = some (.ref (He.ga K q.2))
  pil : hasPile = true → PileF K mg
  mth : ∀ i k F, G i = some (.mth k F) → MFact K (tbOf nm G) X (nm i) k F
  mthv : ∀ i F kf, G i = some (.mthv F kf) → MVFact K (tbOf nm G) X (nm i) F kf
  ini : ∀ i w F dds, G i = some (.ini w F dds) → IFact K (tbOf nm G) X w F dds
  cc : ∀ i d, G i = some (.cc d) → CCFact K (nm i) d
section
variable {K : PySem.W.Frag} {mg : Str → Option Value} {nm : Nat → Str} {G : Nat → Option Ent} {X : Tx} {ca : Nat → Addr} {P : Program} {w : World} {base : Heap}
theorem cal_cc {n : Nat} {i : Nat} {d : D} (h : G i = some (.cc d)) (s : Sto) : cal G n i [] s = some (.ok d s) := by
  cases n <;> simp only [cal, h]
theorem cal_con {n : Nat} {i : Nat} {d : D} (h : G i = some (.con d)) (s : Sto) : cal G n i [] s = some (.ok d s) := by
  cases n <;> simp only [cal, h]
/-- what is said of all defs of the table -/
abbrev AllFn (nm : Nat → Str) (G : Nat → Option Ent) (n : Nat) (C : Ct) : Prop := (∀ f, (tbOf nm G).has f = true → FnC (cal G n) (nm f) C f) ∧ (∀ f, (tbOf nm G).isE f = true → FnE (cal G n) (nm f) C f) ∧ (∀ f, (tbOf nm G).isG f = true → FnG (cal G n) (nm f) C f) ∧
  ∀ i k x, (tbOf nm G).mem i = some (k, x) → FnP (cal G n) C i x k
theorem gok_of (W : Whole K mg nm G X ca) {n k : Nat} {C : Ct} (hK : C.X.K = K) (hmg : C.X.mg = mg) (hca : C.ca = ca) (hc : C.X.calm = true) (hN : C.X.N.Nodup) (hr : Room k C.X.A) (tk : L2N.Takes C.X C.W) (cw : CW C)
    (hf : AllFn nm G n C) : GOk (tbOf nm G) (cal G n) C := by
  refine ⟨hc, hN, by have := hr.un; omega, tk, fun x hx => by rw [hmg]; exact W.blt x hx, fun i hi => ?_, hf.1, hf.2.1, hf.2.2.1, fun q hq => by rw [hmg, hK]; exact W.gf q hq, fun _ _ _ _ h => (nomatch (show false = true from h)), cw, fun h => by rw [hmg, hK]; exact W.pil h, hf.2.2.2, fun i x hi => ?_⟩
  case refine_2 =>
    have hi : (match G i with | some (.cc _) => some (nm i) | _ => none) = some x := hi
    split at hi
    · rename_i d e
      cases hi
      obtain ⟨v, u, h1, h2⟩ := W.cc i d e
      refine ⟨d, v, u, by rw [hK]; exact h1, fun m H => by rw [hK]; exact h2 m H, fun s => cal_cc e s⟩
    · cases hi
  · have hi : (match G i with | some (.con _) => true | _ => false) = true := hi
    split at hi
    · rename_i d e
      obtain ⟨v, u, h1, h2, h3⟩ := W.con i d e
      refine ⟨d, v, u, by rw [hmg]; exact h1, h2, fun m H => by rw [hK]; exact h3 m H, fun s => cal_con e s⟩
    · cases hi
/-- what a call asks of the table -/
theorem cal_fn {n i : Nat} {F : Fn} {dds : List D} (h : G i = some (.fn F dds)) (ds : List D) (s : Sto) : cal G (n + 1) i ds s = run (cal G n) F (ds ++ dds) s := by simp only [cal, h]
theorem cal_fnv {n i : Nat} {F : Fn} {kf : Nat} (h : G i = some (.fnv F kf)) (ds : List D) (s : Sto) : cal G (n + 1) i ds s = if kf ≤ ds.length ∧ (ds.drop kf).length ≤ sizeLine then run (cal G n) F (ds.take kf ++ [.tup (ds.drop kf)]) s else none := by simp only [cal, h]
theorem has_of {i : Nat} (h : (tbOf nm G).has i = true) : (∃ F dds, G i = some (.fn F dds)) ∨ ∃ F kf, G i = some (.fnv F kf) := by
  have h : (match G i with | some (.fn _ _) => true | some (.fnv _ _) => true | _ => false) = true := h
  split at h
  · rename_i F dds e
    exact .inl ⟨F, dds, e⟩
  · rename_i F kf e
    exact .inr ⟨F, kf, e⟩
  · cases h
theorem none_has {i : Nat} {ds : List D} {s : Sto} (h : (tbOf nm G).has i = true) : cal G 0 i ds s = none := by
  rcases has_of h with ⟨F, dds, e⟩ | ⟨F, kf, e⟩ <;> simp only [cal, e]
theorem isE_of {i : Nat} (h : (tbOf nm G).isE i = true) : ∃ f ks, G i = some (.err f ks) := by
  have h : (match G i with | some (.err _ _) => true | _ => false) = true := h
  split at h
  · rename_i f ks e
    exact ⟨f, ks, e⟩
  · cases h
theorem addr_of (W : Whole K mg nm G X ca) {i : Nat} (hi : (tbOf nm G).has i = true) : ∃ f, mg (nm i) = some (.ref f) ∧ PySem.W.keepIn K (.ref f) = true := by
  rcases has_of hi with ⟨F, dds, e⟩ | ⟨F, kf, e⟩
  · obtain ⟨f, _, _, _, _, _, _, _, _, _, _, _, _, _, _, _, _, _, _, _, h1, h2, _⟩ := W.fn i F dds e
    exact ⟨f, h1, h2⟩
  · obtain ⟨f, _, _, _, _, _, _, _, _, _, _, _, _, _, _, _, _, _, _, h1, h2, _⟩ := W.fnv i F kf e
    exact ⟨f, h1, h2⟩
theorem cal_err {n i f : Nat} {ks : List (List D)} (h : G i = some (.err f ks)) (ds : List D) (s : Sto) : cal G (n + 1) i ds s = if ds.length = 3 then errO (fun j => ks[j]?) (cal G n f ds s) else none := by simp only [cal, h]
def subK (ks : List (List D)) (j k : Nat) : Bool := match ks[j]? with
  | some [.str x, _] => hsub x k
  | _ => false
theorem errO_mono {kd : Nat → Option (List D)} {o : Option (Out D)} {L : Nat} {m : Pl} {s : Sto} {H : Hp} {Q : VK} {E E' : XK} (h : PX K ca L (RD K) m s H (errO kd o) Q E) : PX K ca L (RD K) m s H (errO kd o) Q E' := by
  have e : errO kd o = none ∨ ∃ d s', errO kd o = some (.ok d s') := by
    cases o with
    | none => exact .inl rfl
    | some o => cases o with
      | ok x s1 => exact .inr ⟨_, _, rfl⟩
      | exc j s1 =>
        show (match kd j with
          | some ks => some (Out.ok (D.lst ks) s1)
          | none => none) = none ∨ ∃ d s', (match kd j with
          | some ks => some (Out.ok (D.lst ks) s1)
          | none => none) = some (.ok d s')
        cases kd j with
        | none => exact .inl rfl
        | some ks => exact .inr ⟨_, _, rfl⟩
  rcases e with e | ⟨d, s', e⟩
  · rw [e] at h
    exact h.elim
  · rw [e] at h ⊢
    exact h
/-- what the frame of _law_error has -/
theorem errK_of {fe cpe : Addr} {qual : Str} {scope : Scope} {cdv : Value} {ks : List (List D)} {A : Around} {outer : List PySem.Env} {s0 : Shared} {H : Hp} {E : XK} {L : Nat} (h5 : FnScope NE ["call", "a", "b", "c"] scope) (h8 : mg "PrintError" = some (.ref cpe)) (h9 : mg "isinstance" = none) (h10 : mg "ValueError" = none)
    (h11 : ∀ j k, ks[j]? = some k → ∃ x, k = [.str x, .bl true] ∧ EClass K mg (ca j) x) :
    ErrK ⟨cxOf (L2N.CX P w) P w K mg base NE qual scope fe cdv A outer s0 H E, L, fun cls d _ H => E cls d H, ca⟩ hnm (subK ks) (fun j => ks[j]?) hhl cpe := by
  refine ⟨h5.nd, h5.kind, fun _ => rfl, rfl, rfl, L2N.takes_of rfl rfl rfl rfl, h8, h9, fun j k hk => ?_, fun j k hk => ?_, fun j k hk Y y1 y2 z p hg => ?_, fun j k hk a x1 x2 x3 s => ?_⟩
  · obtain ⟨x, _, c⟩ := h11 j k hk
    exact c.exm cpe h8
  · obtain ⟨x, _, c⟩ := h11 j k hk
    exact c.exc
  · obtain ⟨x, ek, c⟩ := h11 j k hk
    have es : subK ks j z = hsub x z := by
      unfold subK
      rw [hk, ek]
    rw [es, y2]
    by_cases hz : z < 8
    · obtain ⟨b, g1, g2⟩ := c.own z hz
      have hd : (hnm z == ("__debug__" : Str)) = false := by
        match z, hz with
        | 0, _ => rfl
        | 1, _ => rfl
        | 2, _ => rfl
        | 3, _ => rfl
        | 4, _ => rfl
        | 5, _ => rfl
        | 6, _ => rfl
        | 7, _ => rfl
      exact ⟨.ref b, .ref b, pe_glob hg (by rw [y1]; exact g1) rfl hd, fun u hu => hu, g2⟩
    · have en : hnm z = "ValueError" := by
        show hnames.getD z "ValueError" = "ValueError"
        rw [List.getD_eq_getElem?_getD, List.getElem?_eq_none (by show 8 ≤ z; omega)]
        rfl
      have et : hsub x z = true := by
        unfold hsub
        rw [decide_eq_true (by omega : 8 ≤ z)]
        rfl
      rw [en] at hg ⊢
      rw [et]
      exact ⟨.ty "ValueError", .type "ValueError", pe_bltn (u := .type "ValueError") hg (by rw [y1]; exact h10) (by decide +kernel) rfl, fun u hu => hu, c.ve⟩
  · obtain ⟨x, ek, c⟩ := h11 j k hk
    subst ek
    have es : subK ks j = hsub x := funext fun z => by
      unfold subK
      rw [hk]
    rw [es]
    exact hrun c.mem a x1 x2 x3 s
/-- THE RULE for _law_error(f, ..) -/
theorem err_ok (W : Whole K mg nm G X ca) {n i f : Nat} {ks : List (List D)} (e : G i = some (.err f ks)) {C : Ct} (hP : C.X.prog = P) (hw : C.X.w = w) (hK : C.X.K = K) (hmg : C.X.mg = mg) (hb : C.X.base = base) (hca : C.ca = ca) (hr : Room (n + 1) C.X.A)
    (ih : ∀ C' : Ct, C'.X.prog = P → C'.X.w = w → C'.X.K = K → C'.X.mg = mg → C'.X.base = base → C'.ca = ca → Room n C'.X.A → FnC (cal G n) (nm f) C' f) : FnE (cal G (n + 1)) (nm i) C i := by
  obtain ⟨⟨fe, name, qual, params, body, scope, dV, kV, doc, pm, cdv, ct, oc, an, od, osl, h1, h2, h3, h4, h5, h6, h7, ⟨cpe, h8⟩, h9, h10, h11⟩, hf, hn⟩ := W.err i f ks e
  obtain ⟨fa, a1, a2⟩ := addr_of W hf
  subst hP hw hK hmg hb hca
  refine ⟨n + 1, fe, fa, h1, h2, hn ▸ a1, ?_, hr⟩
  have F0 : FnOk C.X.prog C.X.w C.X.K C.X.mg C.X.base (L2N.CX C.X.prog C.X.w) (n + 1) fe (PySem.W.fnOf name qual params body scope dV kV doc pm an cdv ct) ["call", "a", "b", "c"] (fun vs H Q E => ∃ us, vs = .ref fa :: us ∧ spF C.X.K C.ca (cal G (n + 1)) i us H Q E) := by
    refine fn_of h3 h4 h5 (fun vs H Q E ⟨us, ev, L, m, s, ds, hL, SR, rd, hP⟩ => ?_) fun A outer s0 H vs Q E hr2 ⟨us, ev, L, m, s, ds, hL, SR, rd, hP⟩ => ?_
    · rw [cal_err e] at hP
      split at hP
      · rename_i hl
        have := rd.length
        subst ev
        show us.length + 1 = 4
        omega
      · exact (show False from hP).elim
    · rw [cal_err e] at hP
      split at hP
      case isFalse => exact (show False from hP).elim
      rename_i hl
      match ds, hl with
      | [d1, d2, d3], _ =>
        obtain ⟨u1, r1, rfl, q1, rd⟩ := rd
        obtain ⟨u2, r2, rfl, q2, rd⟩ := rd
        obtain ⟨u3, r3, rfl, q3, rd⟩ := rd
        cases rd
        subst ev
        obtain ⟨k', fa', b1, b2, F, hr'⟩ := ih ⟨cxOf (L2N.CX C.X.prog C.X.w) C.X.prog C.X.w C.X.K C.X.mg C.X.base NE qual scope fe cdv A outer s0 H E, L, fun cls d _ H => E cls d H, C.ca⟩ rfl rfl rfl rfl rfl rfl hr2
        have efa : fa' = fa := by
          have := b1.symm.trans a1
          cases this
          rfl
        subst efa
        have EK : ErrK ⟨cxOf (L2N.CX C.X.prog C.X.w) C.X.prog C.X.w C.X.K C.X.mg C.X.base NE qual scope fe cdv A outer s0 H E, L, fun cls d _ H => E cls d H, C.ca⟩ hnm (subK ks) (fun j => ks[j]?) hhl cpe := by
          exact errK_of h5 h8 h9 h10 h11
        obtain ⟨t, t1, t2⟩ := err_body (CT := cal G n) (f := f) (g := fun _ => True) EK rfl rfl h7 (calls_fn rfl (F.imp fun _ _ _ _ z => z.2) hr' b2) fun _ _ _ _ _ _ _ z => z
        refine ⟨t, t1, t2 { nx := fun _ H' => Q .non H', rt := Q } m s H d1 d2 d3 _ True.intro ⟨SR, hL, rfl, fun z d hz => ?_⟩ rfl (errO_mono hP)⟩
        match z, hz with
        | 0, hz => cases hz
        | 1, hz =>
          cases hz
          exact ⟨u1, rfl, q1⟩
        | 2, hz =>
          cases hz
          exact ⟨u2, rfl, q2⟩
        | 3, hz =>
          cases hz
          exact ⟨u3, rfl, q3⟩
        | 4, hz => cases hz
        | 5, hz => cases hz
        | 6, hz => cases hz
        | 7, hz => cases hz
        | 8, hz => cases hz
        | z + 9, hz => cases hz
  exact (FnOk.raw F0 h6 .nil).imp fun vs H Q E q => by rw [List.append_nil]; exact q
/-- what is known of the tables of code objects -/
structure LamT (K : PySem.W.Frag) (mg : Str → Option Value) (base : Heap) : Prop where
  tb : ∀ x ∈ lamDefs, LamX.TabB base mg (He.cT K (x, none)).1 (He.cT K (x, none)).2
  un : ∀ x ∈ lamDefs, ∀ y ∈ lamDefs, (He.cT K (y, none)).2 = (He.cT K (x, none)).2 → y = x
theorem cal_erl {n i f : Nat} {ks : List (List D)} (h : G i = some (.erl f ks)) (ds : List D) (s : Sto) : cal G (n + 1) i ds s = if ds.length = 3 then errO (fun j => ks[j]?) (cal G n f ds s) else none := by simp only [cal, h]
theorem cal_lam {n i : Nat} {e : E} (h : G i = some (.lam e)) (ds : List D) (s : Sto) : cal G (n + 1) i ds s = if ds.length = 3 then ev (cal G n) e (ds.map some) s else none := by simp only [cal, h]
theorem rel3 {C : Ct} {L : Nat} {m : Pl} {s : Sto} {H : Hp} {ds : List D} {vs : List V} (hL : L ≤ s.length) (SR : SRel K m s H) (rd : RDs K m H ds vs) (h3 : ds.length = 3) : Rel' K L m s H (ds.map some) (L2.start lamNs vs) := by
  refine ⟨SR, hL, ?_, fun i d h => start_get (N := lamNs) (k := 0) rd (by rw [List.replicate_zero, List.append_nil]; exact h)⟩
  have := rd.length
  unfold L2.start
  rw [List.length_append, List.length_map, List.length_map, List.length_replicate, ← this, h3]
  rfl
/-- THE RULE for _law_error(lambda a, b, c: .., ..) -/
theorem errl_ok (W : Whole K mg nm G X ca) (LT : LamT K mg base) {n : Nat} {C : Ct} (hP : C.X.prog = P) (hw : C.X.w = w) (hK : C.X.K = K) (hmg : C.X.mg = mg) (hb : C.X.base = base) (hca : C.ca = ca) {x : Str} (hx : x ∈ lamDefs)
    (hq : C.X.env.qual = x ++ ".<locals>.") (hc : C.X.env.code = .ref (He.cT K (x, none)).1) (hr : Room n C.X.A)
    (ih : ∀ j, j < n → ∀ C' : Ct, C'.X.prog = P → C'.X.w = w → C'.X.K = K → C'.X.mg = mg → C'.X.base = base → C'.ca = ca → C'.X.calm = true → C'.X.N.Nodup → L2N.Takes C'.X C'.W → CW C' → Room j C'.X.A → GOk (tbOf nm G) (cal G j) C')
    {i : Nat} {ps : Arguments} {body : Expr} {lsc : Scope} (h : lamAt nm G i ps body lsc = true) : FnL (cal G n) C i ps body lsc := by
  unfold lamAt at h
  split at h
  case h_2 => cases h
  rename_i f ks e1
  split at h
  case h_2 => cases h
  rename_i le e2
  simp only [Bool.and_eq_true] at h
  obtain ⟨⟨hp, hs⟩, hchk⟩ := h
  have S := lamSc_ok hs
  obtain ⟨fe, name, qual, params, bodyE, scope, dV, kV, doc, pm, cdv, ct, oc, an, od, osl, h1, h2, h3, h4, h5, h6, h7, ⟨cpe, h8⟩, h9, h10, h11⟩ := W.erl i f ks e1
  subst hP hw hK hmg hb hca
  refine ⟨fe, _, _, h1, h2, LT.tb x hx, hc, ?_, fun p hp2 e => ?_, fun s H us vs Q E f0 c' pm' ct' e0 ho hn hfr hco r q => ?_⟩
  · rw [hq]
    exact List.mem_map.mpr ⟨x, hx, rfl⟩
  · obtain ⟨y, hy, rfl⟩ := List.mem_map.mp hp2
    rw [hq, LT.un x hx y hy e]
    rfl
  · obtain ⟨L, m, st, ds, hL, SR, rd, hP⟩ := q
    match n, hr, ih, hP with
    | 0, _, _, hP =>
      have e0 : cal G 0 i ds st = none := by simp only [cal, e1]
      rw [e0] at hP
      exact hP.elim
    | n + 1, hr, ih, hP =>
    rw [cal_erl e1] at hP
    split at hP
    case isFalse => exact (show False from hP).elim
    rename_i hl
    have hlv : vs.length = 3 := by rw [← rd.length, hl]
    have hlu : us.length = 3 := by rw [← r.length, hlv]
    have hbd := h6 s (.ref f0 :: us) (e0.mod.kin.keeps fun b o e => (e0.bs b o e).1) (by rw [List.append_nil, List.length_cons, hlu]; rfl)
    rw [List.append_nil] at hbd
    refine LamX.run_ofS (N := NE) (ps := ["call", "a", "b", "c"]) (us := .ref f0 :: us) (vs := .ref f0 :: vs) h3 h4 h5 hr e0 hbd (.cons rfl r) (by rw [List.length_cons, hlv]; rfl) fun hr2 => ?_
    match ds, hl with
    | [d1, d2, d3], _ =>
      obtain ⟨u1, r1, rfl, q1, rd⟩ := rd
      obtain ⟨u2, r2, rfl, q2, rd⟩ := rd
      obtain ⟨u3, r3, rfl, q3, rd⟩ := rd
      cases rd
      have EK := errK_of (P := C.X.prog) (w := C.X.w) (base := C.X.base) (fe := fe) (qual := qual) (cdv := cdv) (A := C.X.A) (outer := C.X.stack) (s0 := s) (H := H) (E := E) (L := L) h5 h8 h9 h10 h11
      have PC : CallsAt ⟨cxOf (L2N.CX C.X.prog C.X.w) C.X.prog C.X.w C.X.K C.X.mg C.X.base NE qual scope fe cdv C.X.A C.X.stack s H E, L, fun cls d _ H => E cls d H, C.ca⟩ f0 fun vs H Q E => H c' = some (LamX.CodeO c' (C.X.env.qual ++ "<lambda>")) ∧ spF C.X.K C.ca (cal G n) f vs H Q E := by
        intro W' pn xe tk hv e es t p pos ha g1 g2
        refine pe_callLam (X := (cxOf (L2N.CX C.X.prog C.X.w) C.X.prog C.X.w C.X.K C.X.mg C.X.base NE qual scope fe cdv C.X.A C.X.stack s H E).tr pn xe) ho hn hfr (fun z => by cases z) (fun s' H' us' vs' Q' E' e0' ho' hc' r' q' => ?_) rfl hv (fun σ => L2N.passAt tk σ) ha (by decide) (by decide) g1 g2
        obtain ⟨L', m', st', ds', hL', SR', rd', hP'⟩ := q'
        match n, hr2, ih, hP' with
        | 0, _, _, hP' =>
          have e0 : cal G 0 f ds' st' = none := by simp only [cal, e2]
          rw [e0] at hP'
          exact hP'.elim
        | n + 1, hr2, ih, hP' =>
        rw [cal_lam e2] at hP'
        split at hP'
        case isFalse => exact (show False from hP').elim
        rename_i hl'
        refine lam_code (k := n) hr2 e0' ho' hc' hp S (by rw [← rd'.length, hl']) r' fun hr3 => ?_
        let C2 : Ct := ⟨cxOf (L2N.CX C.X.prog C.X.w) C.X.prog C.X.w C.X.K C.X.mg C.X.base lamNs (C.X.env.qual ++ "<lambda>") lsc f0 (.ref c') (C.X.A.deeper (envOfC qual scope s.heap.objs.size fe cdv)) (envOfC qual scope s.heap.objs.size fe cdv :: C.X.stack) s' H' E', L', fun cls d _ H => E' cls d H, C.ca⟩
        have gk : GOk (tbOf nm G) (cal G n) C2 := ih n (by omega) C2 rfl rfl rfl rfl rfl rfl rfl S.nd (L2N.takes_of rfl rfl rfl rfl) (fun _ _ => rfl) hr3
        exact ⟨_, (chd le).se C2 lsc body gk rfl rfl hchk, ds'.map some, m', st', rel3 (C := C2) hL' SR' rd' hl', hP'⟩
      obtain ⟨t, t1, t2⟩ := err_body (CT := cal G n) (f := f) EK rfl rfl h7 PC fun m s H m' s' H' t z => t.later.hold _ _ z (fun _ e => by unfold LamX.CodeO at e; cases e) ⟨fun _ e => (by unfold LamX.CodeO at e; cases e), fun _ _ _ e => (by unfold LamX.CodeO at e; cases e)⟩ LamX.codeO_ne
      refine ⟨t, t1, t2 { nx := fun _ H' => Q .non H', rt := Q } m st H d1 d2 d3 _ hco ⟨SR, hL, rfl, fun z d hz => ?_⟩ rfl (errO_mono hP)⟩
      match z, hz with
      | 0, hz => cases hz
      | 1, hz =>
        cases hz
        exact ⟨u1, rfl, q1⟩
      | 2, hz =>
        cases hz
        exact ⟨u2, rfl, q2⟩
      | 3, hz =>
        cases hz
        exact ⟨u3, rfl, q3⟩
      | 4, hz => cases hz
      | 5, hz => cases hz
      | 6, hz => cases hz
      | 7, hz => cases hz
      | 8, hz => cases hz
      | z + 9, hz => cases hz
/-- what stands around in the frame of the def x -/
theorem gok_at (W : Whole K mg nm G X ca) (LT : LamT K mg base) {n : Nat} {C : Ct} {x : Str} (hP : C.X.prog = P) (hw : C.X.w = w) (hK : C.X.K = K) (hmg : C.X.mg = mg) (hb : C.X.base = base) (hca : C.ca = ca) (hc : C.X.calm = true) (hN : C.X.N.Nodup) (hr : Room n C.X.A) (tk : L2N.Takes C.X C.W) (cw : CW C)
    (hq : lamDefs.contains x = true → C.X.env.qual = x ++ ".<locals>." ∧ C.X.env.code = .ref (He.cT K (x, none)).1)
    (IH : ∀ j, j ≤ n → ∀ C' : Ct, C'.X.prog = P → C'.X.w = w → C'.X.K = K → C'.X.mg = mg → C'.X.base = base → C'.ca = ca → Room j C'.X.A → AllFn nm G j C') : GOk (tbAt nm G x) (cal G n) C := by
  have g := gok_of W hK hmg hca hc hN hr tk cw (IH n (Nat.le_refl _) C hP hw hK hmg hb hca hr)
  unfold tbAt
  split
  · rename_i hx
    refine ⟨g.calm, g.nd, g.un, g.tk, g.blt, g.con, g.fn, g.er, g.gn, g.gf, fun i ps body lsc h => ?_, g.cw, g.pil, g.mem, g.cc⟩
    exact errl_ok W LT hP hw hK hmg hb hca (List.contains_iff_mem.mp hx) (hq hx).1 (hq hx).2 hr (fun j hj C' g1 g2 g3 g4 g5 g6 g7 g8 g9 g9' g10 => gok_of W g3 g4 g6 g7 g8 g10 g9 g9' (IH j (by omega) C' g1 g2 g3 g4 g5 g6 g10)) h
  · exact g
theorem mem_of {i k : Nat} {x : Str} (h : (tbOf nm G).mem i = some (k, x)) : x = nm i ∧ ((k < 3 ∧ ∃ F, G i = some (.mth k F)) ∨ (k = 0 ∧ ∃ F kf, G i = some (.mthv F kf)) ∨ ∃ w F dds, k = (if w = true then 4 else 3) ∧ G i = some (.ini w F dds)) := by
  have h : (match G i with
    | some (.mth k _) => if k < 3 then some (k, nm i) else none
    | some (.mthv _ _) => some (0, nm i)
    | some (.ini w _ _) => some (if w then 4 else 3, nm i)
    | _ => none) = some (k, x) := h
  split at h
  · rename_i k' F e
    split at h
    · rename_i hk
      cases h
      exact ⟨rfl, .inl ⟨hk, F, e⟩⟩
    · cases h
  · rename_i F kf e
    cases h
    exact ⟨rfl, .inr (.inl ⟨rfl, F, kf, e⟩)⟩
  · rename_i w F dds e
    cases h
    exact ⟨rfl, .inr (.inr ⟨w, F, dds, rfl, e⟩)⟩
  · cases h
theorem mem_cal0 {i k : Nat} {x : Str} (h : (tbOf nm G).mem i = some (k, x)) (ds : List D) (s : Sto) : cal G 0 i ds s = none := by
  rcases (mem_of h).2 with ⟨_, F, e⟩ | ⟨_, F, kf, e⟩ | ⟨w, F, dds, _, e⟩ <;> simp only [cal, e]
theorem mem_cal1 {i k : Nat} {x : Str} (h : (tbOf nm G).mem i = some (k, x)) (ds : List D) (s : Sto) : cal G 1 i ds s = none := by
  rcases (mem_of h).2 with ⟨_, F, e⟩ | ⟨_, F, kf, e⟩ | ⟨w, F, dds, _, e⟩ <;> simp only [cal, e]
/-- the members as a caller must know them: from where they stand and what they promise -/
theorem fnP_of {CT : CTb} {C : Ct} {i k n : Nat} {x : Str} {f : Addr} (hk : k < 3) (a : MAt C.X.K x f k) (F : FnR C.X.prog C.X.w C.X.K C.X.mg C.X.base (L2N.CX C.X.prog C.X.w) n f (spF C.X.K C.ca CT i)) (r : RoomN n C CT i) : FnP CT C i x k := by
  match k, hk, a with
  | 0, _, a => exact ⟨n, f, a, F, r⟩
  | 1, _, ⟨p, a⟩ => exact ⟨n, p, f, a, F, r⟩
  | 2, _, ⟨p, a⟩ => exact ⟨n, p, f, a, F, r⟩
theorem mem_none (W : Whole K mg nm G X ca) {C : Ct} {CT : CTb} {i k : Nat} {x : Str} (hi : (tbOf nm G).mem i = some (k, x)) (hr : Room 0 C.X.A) (h : ∀ ds s, CT i ds s = none) (hK : C.X.K = K := by first | rfl | assumption) : FnP CT C i x k := by
  subst hK
  obtain ⟨rfl, q⟩ := mem_of hi
  have fr : ∀ f, FnR C.X.prog C.X.w C.X.K C.X.mg C.X.base (L2N.CX C.X.prog C.X.w) 0 f (spF C.X.K C.ca CT i) := fun f A outer s H us vs Q E _ _ _ ⟨L, m, s, ds, _, _, _, hP⟩ => by
    rw [h] at hP
    exact (show False from hP).elim
  rcases q with ⟨hk, F, e⟩ | ⟨rfl, F, kf, e⟩ | ⟨w, F, dds, rfl, e⟩
  · obtain ⟨f, _, _, _, _, _, _, _, _, _, _, _, _, _, _, _, _, _, a, _⟩ := W.mth i k F e
    exact fnP_of hk a (fr f) ⟨hr, .inr h⟩
  · obtain ⟨f, _, _, _, _, _, _, _, _, _, _, _, _, _, _, _, _, _, _, a, _⟩ := W.mthv i F kf e
    exact fnP_of (by decide) a (fr f) ⟨hr, .inr h⟩
  · obtain ⟨f, _, _, _, _, _, _, _, _, _, _, _, _, _, _, _, _, ps, gg, gV, a, _, _, _, _, _, _, b, g⟩ := W.ini i w F dds e
    have fo : ∀ fd ps, FnOk C.X.prog C.X.w C.X.K C.X.mg C.X.base (L2N.CX C.X.prog C.X.w) 0 f fd ps (spI C.X.K C.ca CT i dds) := fun fd ps => ⟨fun vs H Q E ⟨L, m, s, ds, _, _, _, hP⟩ => by
      rw [h] at hP
      exact (show False from hP).elim, fun A outer s H args us vs Q E _ _ _ _ ⟨L, m, s, ds, _, _, _, hP⟩ => by
      rw [h] at hP
      exact (show False from hP).elim⟩
    cases w with
    | false => exact ⟨0, f, _, ps, gg, gV, dds, a, fo _ _, b, g, hr, .inr h⟩
    | true => exact ⟨0, f, _, ps, gg, gV, dds, a, fo _ _, b, g, hr, .inr h⟩
theorem mem_ok (W : Whole K mg nm G X ca) {C : Ct} {m i k : Nat} {x : Str} (hi : (tbOf nm G).mem i = some (k, x)) (hr : Room (m + 1 + 1) C.X.A)
    (IH : ∀ C' : Ct, C'.X.prog = C.X.prog → C'.X.w = C.X.w → C'.X.K = C.X.K → C'.X.mg = C.X.mg → C'.X.base = C.X.base → C'.ca = C.ca → Room m C'.X.A → AllFn nm G m C') (hK : C.X.K = K := by first | rfl | assumption) (hmg : C.X.mg = mg := by first | rfl | assumption) (hca : C.ca = ca := by first | rfl | assumption) : FnP (cal G (m + 1 + 1)) C i x k := by
  subst hK hmg hca
  obtain ⟨rfl, q⟩ := mem_of hi
  have gs : ∀ (N : List Str) (ps : List Str) (qual : Str) (scope : Scope) (f : Addr) (cdv : Value) (S : FnScope N ps scope) (A : Around) (outer : List PySem.Env) (s0 : Shared) (H : Hp) (E : XK) (L : Nat), Room m (A.deeper (envOfC qual scope s0.heap.objs.size f cdv)) →
      GS (tbOf nm G) X (cal G m) ⟨cxOf (L2N.CX C.X.prog C.X.w) C.X.prog C.X.w C.X.K C.X.mg C.X.base N qual scope f cdv A outer s0 H E, L, fun cls d _ H => E cls d H, C.ca⟩ := fun N ps qual scope f cdv S A outer s0 H E L hr2 => by
    have tk : L2N.Takes (cxOf (L2N.CX C.X.prog C.X.w) C.X.prog C.X.w C.X.K C.X.mg C.X.base N qual scope f cdv A outer s0 H E) (fun cls d _ H => E cls d H) := L2N.takes_of rfl rfl rfl rfl
    have gk := gok_of (n := m) W (C := ⟨cxOf (L2N.CX C.X.prog C.X.w) C.X.prog C.X.w C.X.K C.X.mg C.X.base N qual scope f cdv A outer s0 H E, L, fun cls d _ H => E cls d H, C.ca⟩) rfl rfl rfl rfl S.nd hr2 tk (fun _ _ => rfl) (IH _ rfl rfl rfl rfl rfl rfl hr2)
    refine ⟨gk, passes_of rfl, fun _ => rfl, S.kind, fun k hk p p2 pos msg jj hg hdb => ?_⟩
    obtain ⟨bmB, newId, initId, B, x1, x2, x3, x4, x5, x6⟩ := W.exc k hk
    exact L2N.pmk_own x1 x2 x3 x4 (raises_own x5 x6) hg hdb
  have rm : RoomN (m + 1) C (cal G (m + 1 + 1)) i := ⟨hr.mono (Nat.le_succ _), .inl hr⟩
  rcases q with ⟨hk, F, e⟩ | ⟨rfl, F, kf, e⟩ | ⟨w, F, dds, rfl, e⟩
  · obtain ⟨f, name, qual, params, body, scope, dV, kV, doc, pm, cdv, ct, oc, an, od, osl, N, ps, a, h3, h4, S, h6, h7, h8, h9⟩ := W.mth i k F e
    have F0 := fn_ok (CT1 := cal G (m + 1 + 1)) (f0 := i) (ca := C.ca) h3 h4 S h6 h7 h8 (fun ds s => by simp only [cal, e]) (gs N ps qual scope f cdv S)
    exact fnP_of hk a ((FnOk.raw F0 h9 .nil).imp fun vs H Q E q => by rw [List.append_nil]; exact q) rm
  · obtain ⟨f, name, qual, params, body, scope, dV, kV, doc, pm, cdv, ct, oc, an, od, osl, N, ps, pv, a, h3, h4, S, h6, h7, h8, h9⟩ := W.mthv i F kf e
    exact fnP_of (by decide) a (fn_okV (CT1 := cal G (m + 1 + 1)) (f0 := i) (ca := C.ca) h3 h4 S h6 h7 h8 (fun ds s => by simp only [cal, e]) h9 (gs N (ps ++ [pv]) qual scope f cdv S)) rm
  · obtain ⟨f, name, qual, params, body, scope, dV, kV, doc, pm, cdv, ct, oc, an, od, osl, N, ps, gg, gV, a, h3, h4, S, h6, h7, h8, b, g⟩ := W.ini i w F dds e
    have F0 := fn_okI (CT1 := cal G (m + 1 + 1)) (f0 := i) (ca := C.ca) (dds := dds) h3 h4 S h6 h7 h8 (fun ds s => by simp only [cal, e]) (gs N ps qual scope f cdv S)
    cases w with
    | false => exact ⟨m + 1, f, _, ps, gg, gV, dds, a, F0, b, g, rm⟩
    | true => exact ⟨m + 1, f, _, ps, gg, gV, dds, a, F0, b, g, rm⟩
theorem isG_of {i : Nat} (h : (tbOf nm G).isG i = true) : ∃ F, G i = some (.gen F) := by
  have h : (match G i with | some (.gen _) => true | _ => false) = true := h
  split at h
  · rename_i F e
    exact ⟨F, e⟩
  · cases h
theorem gen_none {C : Ct} {CT : CTb} {i : Nat} {F : Fn} (W : Whole C.X.K C.X.mg nm G X C.ca) (e : G i = some (.gen F)) (h : ∀ ds s, CT i ds s = none) : FnG CT (nm i) C i := by
  obtain ⟨f, _, _, _, _, _, _, _, _, _, _, _, _, _, _, _, _, _, h1, h2, _⟩ := W.gen i F e
  refine ⟨0, f, h1, h2, ⟨fun A outer s H us vs Q _ _ _ q => ?_⟩, .inr h⟩
  obtain ⟨L, m, s, ds, ys, s', _, _, _, e, _⟩ := q
  rw [h] at e
  cases e
theorem cal_gen {n i : Nat} {F : Fn} (h : G i = some (.gen F)) (ds : List D) (s : Sto) : cal G (n + 2) i ds s = run (cal G n) F ds s := by simp only [cal, h]
/-- every def keeps its promise, at every depth -/
theorem defs_ok (W : Whole K mg nm G X ca) (LT : LamT K mg base) : ∀ (n : Nat) (C : Ct), C.X.prog = P → C.X.w = w → C.X.K = K → C.X.mg = mg → C.X.base = base → C.ca = ca → Room n C.X.A → AllFn nm G n C := by
  intro n
  induction n using Nat.strongRecOn with
  | ind n IH =>
  match n, IH with
  | 0, _ =>
    intro C hP hw hK hmg hb hca hr
    subst hP hw hK hmg hb hca
    refine ⟨fun i hi => ?_, fun i hi => ?_, fun i hi => ?_, fun i k x hi => ?_⟩
    case refine_4 => exact mem_none W hi hr (mem_cal0 hi)
    case refine_3 =>
      obtain ⟨F, e⟩ := isG_of hi
      exact gen_none W e (fun ds s => by simp only [cal, e])
    · obtain ⟨f, h1, h2⟩ := addr_of W hi
      refine ⟨0, f, h1, h2, fun A outer s H us vs Q E _ _ _ q => ?_, hr⟩
      obtain ⟨L, m, s, ds, _, _, _, hP⟩ := q
      rw [none_has hi] at hP
      exact hP.elim
    · obtain ⟨f, ks, e⟩ := isE_of hi
      obtain ⟨⟨fe, name, qual, params, body, scope, dV, kV, doc, pm, cdv, ct, oc, an, od, osl, h1, h2, _⟩, hf, hn⟩ := W.err i f ks e
      obtain ⟨fa, a1, a2⟩ := addr_of W hf
      refine ⟨0, fe, fa, h1, h2, hn ▸ a1, fun A outer s H us vs Q E _ _ _ q => ?_, hr⟩
      obtain ⟨us, _, L, m, s, ds, _, _, _, hP⟩ := q
      have e0 : cal G 0 i ds s = none := by simp only [cal, e]
      rw [e0] at hP
      exact hP.elim
  | n + 1, IH =>
    have ih := IH n (Nat.lt_succ_self n)
    intro C hP hw hK hmg hb hca hr
    refine ⟨fun i hi => ?_, fun i hi => ?_, fun i hi => ?_, fun i k x hi => ?_⟩
    case refine_4 =>
      subst hP hw hK hmg hb hca
      match n, IH, hr with
      | 0, _, hr => exact mem_none W hi (hr.mono (Nat.zero_le _)) (mem_cal1 hi)
      | m + 1, IH, hr => exact mem_ok W hi hr fun C' g1 g2 g3 g4 g5 g6 g7 => IH m (by omega) C' g1 g2 g3 g4 g5 g6 g7
    case refine_3 =>
      obtain ⟨F, e⟩ := isG_of hi
      subst hP hw hK hmg hb hca
      match n, IH, hr with
      | 0, _, _ => exact gen_none W e (fun ds s => by simp only [cal, e])
      | m + 1, IH, hr =>
        obtain ⟨f, name, qual, params, body, scope, dV, kV, doc, pm, cdv, ct, oc, an, od, osl, N, ps, h1, h2, h3, h4, h5, h6, h7, h8, h9, h10⟩ := W.gen i F e
        refine ⟨m + 1, f, h1, h2, gen_ok (T := tbOf nm G) (CT := cal G m) (ca := C.ca) h3 h4 h5 h6 h7 h8 h9 (fun ds s => by simp only [cal, e]) h10 fun A outer s H pn L hr2 => ?_, .inl hr⟩
        exact gok_of (n := m) W rfl rfl rfl rfl h5.nd hr2 takes0N (fun _ _ => rfl) (IH m (by omega) _ rfl rfl rfl rfl rfl rfl hr2)
    case refine_2 =>
      obtain ⟨f, ks, e⟩ := isE_of hi
      obtain ⟨_, hf, hn⟩ := W.err i f ks e
      exact err_ok W e hP hw hK hmg hb hca hr fun C' g1 g2 g3 g4 g5 g6 g7 => (ih C' g1 g2 g3 g4 g5 g6 g7).1 f hf
    rcases has_of hi with ⟨F, dds, e⟩ | ⟨F, kf, e⟩
    · obtain ⟨f, name, qual, params, body, scope, dV, kV, doc, pm, cdv, ct, oc, an, od, osl, N, ps, dvs, dus, h1, h2, h3, h4, h5, h6, h7, h8, h9, h10, h11, h12⟩ := W.fn i F dds e
      obtain ⟨j, hj, hnm⟩ := W.bs i F dds e
      subst hP hw hK hmg hb hca
      have F0 : FnOk C.X.prog C.X.w C.X.K C.X.mg C.X.base (L2N.CX C.X.prog C.X.w) (n + 1) f (PySem.W.fnOf name qual params body scope dV kV doc pm an cdv ct) ps (spF C.X.K C.ca (cal G (n + 1)) j) := by
        refine fn_ok (T := tbAt nm G (nm i)) (X := X) (CT := cal G n) (F := F) h3 h4 h5 h6 h7 h8 (fun ds s => ?_) fun A outer s0 H E L hr2 => ?_
        · rw [cal_fn hj, List.append_nil]
        · have tk : L2N.Takes (cxOf (L2N.CX C.X.prog C.X.w) C.X.prog C.X.w C.X.K C.X.mg C.X.base N qual scope f cdv A outer s0 H E) (fun cls d _ H => E cls d H) := L2N.takes_of rfl rfl rfl rfl
          have gk := gok_at (n := n) (x := nm i) W LT (C := ⟨cxOf (L2N.CX C.X.prog C.X.w) C.X.prog C.X.w C.X.K C.X.mg C.X.base N qual scope f cdv A outer s0 H E, L, fun cls d _ H => E cls d H, C.ca⟩) rfl rfl rfl rfl rfl rfl rfl h5.nd hr2 tk (fun _ _ => rfl)
            (fun z => by
              obtain ⟨z1, z2⟩ := h12 z
              exact ⟨congrArg (fun q : Str => q ++ ".<locals>.") z1, z2⟩) fun j hj => IH j (by omega)
          refine ⟨gk, passes_of rfl, fun _ => rfl, h5.kind, fun k hk p p2 pos msg jj hg hdb => ?_⟩
          obtain ⟨bmB, newId, initId, B, x1, x2, x3, x4, x5, x6⟩ := W.exc k hk
          exact L2N.pmk_own x1 x2 x3 x4 (raises_own x5 x6) hg hdb
      refine ⟨n + 1, f, h1, h2, (FnOk.raw F0 h9 h10).imp fun vs H Q E q => ?_, hr⟩
      obtain ⟨L, m, s, ds, hL, S, rx, hP⟩ := q
      refine ⟨L, m, s, ds ++ dds, hL, S, rx.append (h11 m H), ?_⟩
      have e2 : cal G (n + 1) j (ds ++ dds) s = cal G (n + 1) i ds s := by rw [cal_fn hj, cal_fn e, List.append_nil]
      rw [e2]
      exact hP
    · obtain ⟨f, name, qual, params, body, scope, dV, kV, doc, pm, cdv, ct, oc, an, od, osl, N, ps, pv, h1, h2, h3, h4, h5, h6, h7, h8, h9⟩ := W.fnv i F kf e
      subst hP hw hK hmg hb hca
      refine ⟨n + 1, f, h1, h2, ?_, hr⟩
      refine fn_okV (T := tbOf nm G) (X := X) (CT := cal G n) (F := F) h3 h4 h5 h6 h7 h8 (fun ds s => cal_fnv e ds s) h9 fun A outer s0 H E L hr2 => ?_
      have tk : L2N.Takes (cxOf (L2N.CX C.X.prog C.X.w) C.X.prog C.X.w C.X.K C.X.mg C.X.base N qual scope f cdv A outer s0 H E) (fun cls d _ H => E cls d H) := L2N.takes_of rfl rfl rfl rfl
      have gk := gok_of (n := n) W (C := ⟨cxOf (L2N.CX C.X.prog C.X.w) C.X.prog C.X.w C.X.K C.X.mg C.X.base N qual scope f cdv A outer s0 H E, L, fun cls d _ H => E cls d H, C.ca⟩) rfl rfl rfl rfl h5.nd hr2 tk (fun _ _ => rfl)
        (ih _ rfl rfl rfl rfl rfl rfl hr2)
      refine ⟨gk, passes_of rfl, fun _ => rfl, h5.kind, fun k hk p p2 pos msg jj hg hdb => ?_⟩
      obtain ⟨bmB, newId, initId, B, x1, x2, x3, x4, x5, x6⟩ := W.exc k hk
      exact L2N.pmk_own x1 x2 x3 x4 (raises_own x5 x6) hg hdb
end
end EV

set_option maxHeartbeats 1000000
/-! the head: what the top has written, the law's end -/
namespace EV
open PySem PySem.Spec PyProof.Rows L2
/-! ### the hook -/
abbrev Tp : Type := List (Str × List He.Dv)
/-- what _law_error asks of a class -/
def ecB (K : PySem.W.Frag) (x : Str) : Bool :=
  decide (PySem.W.findIn K (.ref (He.ga K x)) "__getattribute__" = some (some (.builtin "BaseException.__getattribute__"))) && decide (PySem.W.findIn K (.ref (He.ga K x)) "__getattr__" = some none) && decide (PySem.W.subIn K (.ref (He.ga K x)) (.type "BaseException") = some true) &&
  PySem.W.hasDictIn K (He.ga K x) && decide (PySem.W.findIn K (.ref (He.ga K x)) "__class__" = some (some (.builtin "object.__class__"))) && decide (PySem.W.specialIn K (.builtin "object.__class__") "__get__" = some (some (.builtin "getset_descriptor.__get__"))) &&
  decide (PySem.W.takesIn K (.builtin "object.__class__") = some true) && decide (PySem.W.mroIn K (He.ga K x) (.type "object") = some true) && decide (PySem.W.exmOne K (.ref (He.ga K x)) (.ref (He.ga K "PrintError")) = some true) &&
  ([0, 1, 2, 3, 4, 5, 6, 7].all fun k => decide (PySem.W.kitOne K (.ref (He.ga K x)) (.ref (He.ga K (hnm k))) = some (hsub x k))) && decide (PySem.W.kitOne K (.ref (He.ga K x)) (.type "ValueError") = some true)
/-- a member of the class: where its def stands -/
def matA (k : Nat) (x : Str) (K : PySem.W.Frag) : Addr := match k with
  | 0 => He.ma K (pilA K) x
  | 1 => He5.wf K (pilA K) "property" x
  | 2 => He5.wf K (pilA K) "classmethod" x
  | _ => He.ma K (pilA K) "__init__"
def memB (K : PySem.W.Frag) (k : Nat) (x : Str) : Bool := match k with
  | 0 => (He.Fa.meth "Pile" x).ok K && decide (PySem.W.specialIn K (.ref (He.ma K (pilA K) x)) "__get__" = some (some (.builtin "function.__get__"))) && decide (PySem.W.takesIn K (.ref (He.ma K (pilA K) x)) = some false) && !PySem.W.copiedNames.contains x && PySem.W.fnIn K (He.ma K (pilA K) x)
  | 1 => decide (PySem.W.findIn K (.ref (pilA K)) x = some (some (.ref (He.ma K (pilA K) x)))) && decide (PySem.W.specialIn K (.ref (He.ma K (pilA K) x)) "__get__" = some (some (.builtin "property.__get__"))) && decide (PySem.W.takesIn K (.ref (He.ma K (pilA K) x)) = some true) && (match PySem.W.recIn K (He.ma K (pilA K) x) "property" with
    | some (.ref _ :: _) => true
    | _ => false)
  | 2 => He5.wrapB K (pilA K) "classmethod" "classmethod.__get__" x && PySem.W.fnIn K (He5.wf K (pilA K) "classmethod" x)
  | _ => true
theorem mat_of {K : PySem.W.Frag} {k : Nat} {x : Str} (hk : k < 3) (h : memB K k x = true) : MAt K x (matA k x K) k := by
  match k, hk, h with
  | 0, _, h =>
    have h : ((He.Fa.meth "Pile" x).ok K && decide (PySem.W.specialIn K (.ref (He.ma K (pilA K) x)) "__get__" = some (some (.builtin "function.__get__"))) && decide (PySem.W.takesIn K (.ref (He.ma K (pilA K) x)) = some false) && !PySem.W.copiedNames.contains x && PySem.W.fnIn K (He.ma K (pilA K) x)) = true := h
    simp only [Bool.and_eq_true] at h
    obtain ⟨⟨⟨⟨h1, h2⟩, h3⟩, h4⟩, h5⟩ := h
    exact ⟨He.meth_ok h1, of_decide_eq_true h2, of_decide_eq_true h3, by simpa using h4, h5⟩
  | 1, _, h =>
    have h : (decide (PySem.W.findIn K (.ref (pilA K)) x = some (some (.ref (He.ma K (pilA K) x)))) && decide (PySem.W.specialIn K (.ref (He.ma K (pilA K) x)) "__get__" = some (some (.builtin "property.__get__"))) && decide (PySem.W.takesIn K (.ref (He.ma K (pilA K) x)) = some true) && (match PySem.W.recIn K (He.ma K (pilA K) x) "property" with
      | some (.ref _ :: _) => true
      | _ => false)) = true := h
    simp only [Bool.and_eq_true] at h
    obtain ⟨⟨⟨h1, h2⟩, h3⟩, h4⟩ := h
    refine ⟨He.ma K (pilA K) x, of_decide_eq_true h1, of_decide_eq_true h2, of_decide_eq_true h3, ?_⟩
    show ∃ rest, PySem.W.recIn K (He.ma K (pilA K) x) "property" = some (.ref (He5.wf K (pilA K) "property" x) :: rest)
    unfold He5.wf
    split at h4
    · rename_i f r e
      exact ⟨r, by rw [e]⟩
    · cases h4
  | 2, _, h =>
    have h : (He5.wrapB K (pilA K) "classmethod" "classmethod.__get__" x && PySem.W.fnIn K (He5.wf K (pilA K) "classmethod" x)) = true := h
    rw [Bool.and_eq_true] at h
    exact ⟨_, He5.cmet_of h.1 h.2⟩
def ccB (K : PySem.W.Frag) (x : Str) (v : He.Dv) : Bool := match PySem.W.findCls K (.ref (pilA K)) (.type "type") x with
  | some (.val u) => He.relB (v.v K) u
  | _ => false
theorem cc_of {K : PySem.W.Frag} {x : Str} {v : He.Dv} (h : ccB K x v = true) : ∃ u, ClX.CVal K (pilA K) (.type "type") x (v.v K) u := by
  unfold ccB at h
  split at h
  · rename_i u e
    exact ⟨u, e, He.relB_ok h⟩
  · cases h
theorem cread_of {K : PySem.W.Frag} {C : Addr} (N : PySem.W.readsIn K C (.type "type") = true) : ClX.CRead K C (.type "type") := by
  refine ⟨N, ?_⟩
  have h := N
  unfold PySem.W.readsIn at h
  obtain ⟨h, _⟩ := He.ba h
  obtain ⟨h, _⟩ := He.ba h
  obtain ⟨h, h3⟩ := He.ba h
  obtain ⟨_, h2⟩ := He.ba h
  unfold PySem.W.specialIn
  rw [beq_iff_eq.mp h2, Option.bind_some]
  exact beq_iff_eq.mp h3
/-- all that is asked of the class -/
def pilB (K : PySem.W.Frag) : Bool := (pmem.all fun q => memB K q.1 q.2) && (pcon.all fun q => ccB K q.1 (.int q.2)) && (!hasPile || ((He.Fa.cls "Pile").ok K && (pfields.all fun k => (He.Fa.noat "Pile" k).ok K) && PySem.W.readsIn K (pilA K) (.type "type") && (He.Fa.mkr "Pile").ok K))
def exM (ts : Tp) (ec : List Str) (K : PySem.W.Frag) : Bool :=
  pilB K && ((ts.all fun t => He.tupB K t.1 t.2) && (ec.all fun x => ecB K x) && lamDefs.all fun x => lamDefs.all fun y => decide (y = x) || !decide ((He.cT K (y, none)).2 = (He.cT K (x, none)).2))
def lamTf : List He.Defn := lamDefs.map fun x => (x, none)
/-! the hook: HeadHook4's, and defs at any address, and the interpreter's own statics -/
def frP (g : Addr → Option Obj) (n : Nat) : PySem.W.Frag := He.frT g (He.asD g n ++ [cStatics])
abbrev AlP : Type := He.AlX × He.AlD
def obsP (n : Nat) (fa : List He.Fa) (fn : List He.DefD) (tf : List He.Defn) (ex : PySem.W.Frag → Bool) (da : List He5.DefA) (g : Addr → Option Obj) : AlP :=
  ((He.obsT fa fn [] (frP g n), ex (frP g n) && He.tabsB g tf (frP g n)), (da.all fun d => d.ok (frP g n), da.map fun d => He5.fnA (frP g n) (d.at_ (frP g n))))
def valP (fn : List He.DefD) (da : List He5.DefA) (w : World) : AlP := ((He.valT fn [] w, true), (true, da.map He5.DefA.val))
structure SaysP (fa : List He.Fa) (fn : List He.DefD) (tf : List He.Defn) (ex : PySem.W.Frag → Bool) (da : List He5.DefA) (w : World) (h : Heap) (K : PySem.W.Frag) : Prop extends He.SaysX fa fn [] tf ex w h K where
  a : (da.all fun d => d.ok K) = true ∧ (da.map fun d => He5.fnA K (d.at_ K)) = da.map He5.DefA.val
theorem saysP_of {n : Nat} {fa : List He.Fa} {fn : List He.DefD} {tf : List He.Defn} {ex : PySem.W.Frag → Bool} {da : List He5.DefA} {w : World} {h : Heap} (e : obsP n fa fn tf ex da h.get? = valP fn da w) : SaysP fa fn tf ex da w h (frP h.get? n) := by
  have e1 : He.obsT fa fn [] (frP h.get? n) = He.valT fn [] w := congrArg (fun z : AlP => z.1.1) e
  have e2 : (ex (frP h.get? n) && He.tabsB h.get? tf (frP h.get? n)) = true := congrArg (fun z : AlP => z.1.2) e
  have e3 : (da.all fun d => d.ok (frP h.get? n)) = true := congrArg (fun z : AlP => z.2.1) e
  have e4 : (da.map fun d => He5.fnA (frP h.get? n) (d.at_ (frP h.get? n))) = da.map He5.DefA.val := congrArg (fun z : AlP => z.2.2) e
  obtain ⟨h1, h2⟩ := He.ba e2
  have key : ∀ p ∈ tf, PySem.W.codeHdIn (frP h.get? n) (He.cT (frP h.get? n) p).1 (He.cT (frP h.get? n) p).2 = true ∧ ∃ o, h.get? (He.cT (frP h.get? n) p).2 = some o ∧ He.emptyTab o = true := fun p hp => by
    obtain ⟨h3, h4⟩ := He.ba (List.all_eq_true.mp h2 p hp)
    refine ⟨h3, ?_⟩
    cases q : h.get? (He.cT (frP h.get? n) p).2 with
    | none =>
      rw [q] at h4
      cases h4
    | some o =>
      rw [q] at h4
      exact ⟨o, rfl, h4⟩
  exact ⟨⟨e1, h1, fun p hp => (key p hp).1, fun p hp => by
    obtain ⟨_, o, q, z⟩ := key p hp
    exact He.frT_none q z, fun p hp => by
    obtain ⟨_, o, q, z⟩ := key p hp
    rw [q, He.emptyTab_eq z]⟩, e3, e4⟩
def hookP (n : Nat) (fa : List He.Fa) (fn : List He.DefD) (tf : List He.Defn) (ex : PySem.W.Frag → Bool) (da : List He5.DefA) : PySem.W.Hook where
  α := AlP
  obs := fun s => obsP n fa fn tf ex da s.heap.get?
  val := fun w => valP fn da w
  says := fun w h => ∃ K : PySem.W.Frag, K.In h ∧ SaysP fa fn tf ex da w h K
  of := fun _ _ e => ⟨_, He.frT_in, saysP_of e⟩
  keeps := fun _ _ _ ⟨K, hK, c⟩ k => ⟨K, PySem.W.Frag.In.keeps hK k, ⟨⟨c.t, c.more, c.hd, c.out, fun p hp => k _ _ (c.empty p hp)⟩, c.a⟩⟩
abbrev SaysM (fa : List He.Fa) (ts : Tp) (ec : List Str) (fn : List He.DefD) (da : List He5.DefA) (w : World) (h : Heap) (K : PySem.W.Frag) : Prop := SaysP fa fn lamTf (exM ts ec) da w h K
abbrev hookM (n : Nat) (fa : List He.Fa) (ts : Tp) (ec : List Str) (fn : List He.DefD) (da : List He5.DefA) : PySem.W.Hook := hookP n fa fn lamTf (exM ts ec) da
def obsMG (n : Nat) (fa : List He.Fa) (ts : Tp) (ec : List Str) (fn : List He.DefD) (da : List He5.DefA) (g : Addr → Option Obj) : AlP := obsP n fa fn lamTf (exM ts ec) da g
theorem obsMG_eq {n : Nat} {fa : List He.Fa} {ts : Tp} {ec : List Str} {fn : List He.DefD} {da : List He5.DefA} {g : Addr → Option Obj} {s : Shared} (h : ∀ a, g a = s.heap.get? a) : obsMG n fa ts ec fn da g = (hookM n fa ts ec fn da).obs s := by
  have e : g = s.heap.get? := funext h
  rw [e] <;> rfl
section
variable {fa : List He.Fa} {ts : Tp} {ec : List Str} {fn : List He.DefD} {da : List He5.DefA} {K : PySem.W.Frag} {w : World} {h : Heap}
theorem sm_fact (c : SaysM fa ts ec fn da w h K) (i : Nat) {f : He.Fa} (e : fa[i]? = some f) : f.ok K = true := c.t.d.facts (List.mem_of_getElem? e)
theorem sm_ex (c : SaysM fa ts ec fn da w h K) : ((ts.all fun t => He.tupB K t.1 t.2) = true ∧ (ec.all fun x => ecB K x) = true) ∧ (lamDefs.all fun x => lamDefs.all fun y => decide (y = x) || !decide ((He.cT K (y, none)).2 = (He.cT K (x, none)).2)) = true := by
  obtain ⟨_, c0⟩ := He.ba c.more
  obtain ⟨c1, c2⟩ := He.ba c0
  exact ⟨He.ba c1, c2⟩
theorem sm_pil (c : SaysM fa ts ec fn da w h K) : ((pmem.all fun q => memB K q.1 q.2) = true ∧ (pcon.all fun q => ccB K q.1 (.int q.2)) = true) ∧ (hasPile = true → (He.Fa.cls "Pile").ok K = true ∧ (pfields.all fun k => (He.Fa.noat "Pile" k).ok K) = true ∧ PySem.W.readsIn K (pilA K) (.type "type") = true ∧ (He.Fa.mkr "Pile").ok K = true) := by
  obtain ⟨c0, _⟩ := He.ba c.more
  obtain ⟨c1, c2⟩ := He.ba c0
  refine ⟨He.ba c1, fun hp => ?_⟩
  rw [hp] at c2
  have c2 : ((He.Fa.cls "Pile").ok K && (pfields.all fun k => (He.Fa.noat "Pile" k).ok K) && PySem.W.readsIn K (pilA K) (.type "type") && (He.Fa.mkr "Pile").ok K) = true := c2
  simp only [Bool.and_eq_true] at c2
  exact ⟨c2.1.1.1, c2.1.1.2, c2.1.2, c2.2⟩
theorem sm_mem (c : SaysM fa ts ec fn da w h K) (i : Nat) {k : Nat} {x : Str} (e : pmem[i]? = some (k, x)) (hk : k < 3) : MAt K x (matA k x K) k := mat_of hk (List.all_eq_true.mp (sm_pil c).1.1 (k, x) (List.mem_of_getElem? e))
theorem sm_cc (c : SaysM fa ts ec fn da w h K) (i : Nat) {x : Str} {v : Int} (e : pcon[i]? = some (x, v)) : CCFact K x (.int v) := by
  obtain ⟨u, hu⟩ := cc_of (List.all_eq_true.mp (sm_pil c).1.2 (x, v) (List.mem_of_getElem? e))
  exact ⟨_, u, hu, fun m H => rfl⟩
theorem sm_pileF {mg : Str → Option Value} (c : SaysM fa ts ec fn da w h K) (hp : hasPile = true) (hm : mg "Pile" = some (.ref (pilA K))) : PileF K mg := by
  obtain ⟨h1, h2, h3, _⟩ := (sm_pil c).2 hp
  exact ⟨He.cls_ok h1, cread_of h3, fun k hk => He.noat_ok (List.all_eq_true.mp h2 k hk), hm⟩
theorem sm_mk (c : SaysM fa ts ec fn da w h K) (hp : hasPile = true) : Mk K (pilA K) (He.ma K (pilA K) "__init__") := He.mkr_ok ((sm_pil c).2 hp).2.2.2
theorem sm_da (c : SaysM fa ts ec fn da w h K) (i : Nat) {d : He5.DefA} (e : da[i]? = some d) : ∃ fd, FunD K d.name d.qual d.params d.body d.scope (d.dvs K) (d.kws K) (d.at_ K) fd := by
  have e1 := c.a.2
  have e2 : (da.map fun d => He5.fnA K (d.at_ K))[i]? = (da.map He5.DefA.val)[i]? := by rw [e1]
  rw [List.getElem?_map, List.getElem?_map, e] at e2
  exact He5.DefA.funD (Option.some.inj e2) (List.all_eq_true.mp c.a.1 d (List.mem_of_getElem? e))
theorem sm_tab (c : SaysM fa ts ec fn da w h K) (i : Nat) {t : Str × List He.Dv} (e : ts[i]? = some t) : He.tupB K t.1 t.2 = true := List.all_eq_true.mp (sm_ex c).1.1 t (List.mem_of_getElem? e)
theorem sm_cls (c : SaysM fa ts ec fn da w h K) : ∀ x ∈ ec, ecB K x = true := fun x hx => List.all_eq_true.mp (sm_ex c).1.2 x hx
theorem sm_def (c : SaysM fa ts ec fn da w h K) (i : Nat) {d : He.DefD} (e : fn[i]? = some d) : ∃ fd, FunD K d.name d.qual d.params d.body d.scope (d.dvs K) (d.kws K) (He.fAd K d.at_) fd := c.t.d.defs (List.mem_of_getElem? e)
end
/-- a def of the module under its name -/
def mkD (x : Str) (st : Stmt) (dfl : List He.Dv) : He.DefD := ⟨(x, none), x, x, defArgs st, defBody st, defScope st, dfl, []⟩
/-- a def in a class's body -/
def clsBody : Stmt → List Stmt
  | .ClassDef _ _ _ b _ _ _ _ _ _ _ => b
  | _ => []
def mkA (k : Nat) (x : Str) (st : Stmt) (kwd : List (Str × He.Dv)) : He5.DefA := ⟨matA k x, x, "Pile." ++ x, defArgs st, defBody st, defScope st, [], kwd⟩
theorem sm_dfn {fa : List He.Fa} {ts : Tp} {ec : List Str} {fn : List He.DefD} {da : List He5.DefA} {K : PySem.W.Frag} {w : World} {h : Heap} (c : SaysM fa ts ec fn da w h K) (i : Nat) (x : Str) (st : Stmt) (dfl : List He.Dv) (e : fn[i]? = some (mkD x st dfl)) :
    ∃ fd, FunD K x x (defArgs st) (defBody st) (defScope st) (dfl.map (He.Dv.v K)) [] (He.ga K x) fd := sm_def c i e
section
variable {fa : List He.Fa} {ts : Tp} {ec : List Str} {fn : List He.DefD} {da : List He5.DefA} {K : PySem.W.Frag} {w : World} {h : Heap}
theorem sm_dm (c : SaysM fa ts ec fn da w h K) (i k : Nat) (x : Str) (st : Stmt) (e : da[i]? = some (mkA k x st [])) : ∃ fd, FunD K x ("Pile." ++ x) (defArgs st) (defBody st) (defScope st) [] [] (matA k x K) fd := sm_da c i e
theorem sm_di (c : SaysM fa ts ec fn da w h K) (i : Nat) (st : Stmt) (e : da[i]? = some (mkA 3 "__init__" st [(("multiple" : Str), .int 1)])) : ∃ fd, FunD K "__init__" ("Pile." ++ "__init__") (defArgs st) (defBody st) (defScope st) [] [(("multiple" : Str), .int 1)] (He.ma K (pilA K) "__init__") fd := sm_da c i e
end
/-! ### the facts -/
section
variable {K : PySem.W.Frag} {mg : Str → Option Value} {h : Heap} {T : Tb} {X : Tx} {F : Fn} {N ps : List Str} {x : Str} {st : Stmt} {dfl : List He.Dv}
theorem code_of {x : Str} {oc : Value} {od : Option Addr} {osl : Array (Option Value)} {name qual q : Str} {params : Arguments} {body : List Stmt} {sc : Scope} {dV kV doc pm cdv ct : Value} {an : Option Addr}
    (lk : K.lookup (He.ga K x) = some ⟨oc, od, .func (PySem.W.fnOf name qual params body sc dV kV doc pm an cdv ct), osl⟩) (hcd : PySem.W.codeIn K cdv q = true) : cdv = .ref (He.cT K (x, none)).1 := by
  obtain ⟨c, rfl⟩ := He.codeIn_ref hcd
  exact congrArg Value.ref (He.codeOf_eq (p := (x, none)) lk rfl).symm
theorem dfact_of {fd : FuncData} (FD : FunD K x x (defArgs st) (defBody st) (defScope st) [] [] (He.ga K x) fd) (hm : mg x = some (.ref (He.ga K x))) (S : FnScope N ps (defScope st)) (h1 : ps.length = F.np) (h2 : N.length = F.ns)
    (h3 : chkB T X N F.body (defScope st) (defBody st) = true)
    (b : ∀ (kV doc pm : Value) (an : Option Addr) (cdv ct : Value) (us : List Value), us.length = ps.length → bindArgs (PySem.W.fnOf x x (defArgs st) (defBody st) (defScope st) .none kV doc pm an cdv ct) ⟨us, []⟩ = pure (ps.zip us)) : DFact K mg T X x F [] := by
  have hb := FD.bindsN b
  obtain ⟨oc, od, dV, kV, doc, pm, an, cdv, ct, osl, rfl, lk, hcd, hD, hK⟩ := FD.ex
  exact ⟨He.ga K x, x, x, _, _, _, dV, kV, doc, pm, cdv, ct, oc, an, od, osl, N, ps, [], [], hm, FD.kp, lk, hcd, S, h1, h2, h3, hb, .nil, fun m H => rfl, fun _ => ⟨rfl, code_of lk hcd⟩⟩
theorem vfact_of {fd : FuncData} {pv : Str} {kf : Nat} (FD : FunD K x x (defArgs st) (defBody st) (defScope st) [] [] (He.ga K x) fd) (hm : mg x = some (.ref (He.ga K x))) (S : FnScope N (ps ++ [pv]) (defScope st)) (h1 : ps.length = kf) (h2 : N.length = F.ns)
    (h3 : chkB T X N F.body (defScope st) (defBody st) = true)
    (b : ∀ (kV doc pm : Value) (an : Option Addr) (cdv ct : Value) (us rest : List Value), us.length = ps.length → bindArgs (PySem.W.fnOf x x (defArgs st) (defBody st) (defScope st) .none kV doc pm an cdv ct) ⟨us ++ rest, []⟩ = (newTuple rest >>= fun t => pure (ps.zip us ++ [(pv, t)]))) : VFact K mg T X x F kf := by
  obtain ⟨oc, od, dV, kV, doc, pm, an, cdv, ct, osl, rfl, lk, hcd, hD, hK⟩ := FD.ex
  rcases hD with ⟨_, rfl⟩ | ⟨e, _⟩
  case inr => exact absurd rfl e
  exact ⟨He.ga K x, x, x, _, _, _, _, kV, doc, pm, cdv, ct, oc, an, od, osl, N, ps, pv, hm, FD.kp, lk, hcd, S, h1, h2, h3, fun us rest hu => b kV doc pm an cdv ct us rest hu⟩
theorem dfact_ofD {fd : FuncData} {dvs : List V} {j : Nat} {dds : List D} (FD : FunD K x x (defArgs st) (defBody st) (defScope st) dvs [] (He.ga K x) fd) (hm : mg x = some (.ref (He.ga K x))) (S : FnScope N ps (defScope st)) (h1 : ps.length = F.np) (h2 : N.length = F.ns)
    (h3 : chkB T X N F.body (defScope st) (defBody st) = true) (b : ∃ ds, Vals (dvs.drop j) ds ∧ Binds K fd ps ds) (r : ∀ m H, RDs K m H dds (dvs.drop j)) : DFact K mg T X x F dds := by
  obtain ⟨dus, b1, b2⟩ := b
  obtain ⟨oc, od, dV, kV, doc, pm, an, cdv, ct, osl, rfl, lk, hcd, hD, hK⟩ := FD.ex
  exact ⟨He.ga K x, x, x, _, _, _, dV, kV, doc, pm, cdv, ct, oc, an, od, osl, N, ps, dvs.drop j, dus, hm, FD.kp, lk, hcd, S, h1, h2, h3, b2, b1, r, fun _ => ⟨rfl, code_of lk hcd⟩⟩
theorem gfact_of {fd : FuncData} (FD : FunD K x x (defArgs st) (defBody st) (defScope st) [] [] (He.ga K x) fd) (hm : mg x = some (.ref (He.ga K x))) (S : GScope N ps (defScope st)) (h1 : ps.length = F.np) (h2 : N.length = F.ns) (hz : F.fz = true)
    (h3 : chkG T N F.body (defScope st) (defBody st) = true)
    (b : ∀ (kV doc pm : Value) (an : Option Addr) (cdv ct : Value) (us : List Value), us.length = ps.length → bindArgs (PySem.W.fnOf x x (defArgs st) (defBody st) (defScope st) .none kV doc pm an cdv ct) ⟨us, []⟩ = pure (ps.zip us)) : GFact K mg T x F := by
  have hb := FD.bindsN b
  obtain ⟨oc, od, dV, kV, doc, pm, an, cdv, ct, osl, rfl, lk, hcd, hD, hK⟩ := FD.ex
  exact ⟨He.ga K x, x, x, _, _, _, dV, kV, doc, pm, cdv, ct, oc, an, od, osl, N, ps, hm, FD.kp, lk, hcd, S, h1, h2, hz, h3, hb⟩
theorem mfact_of {k : Nat} {f : Addr} {qual : Str} {fd : FuncData} (FD : FunD K x qual (defArgs st) (defBody st) (defScope st) [] [] f fd) (a : MAt K x f k) (S : FnScope N ps (defScope st)) (h1 : ps.length = F.np) (h2 : N.length = F.ns)
    (h3 : chkB T X N F.body (defScope st) (defBody st) = true)
    (b : ∀ (kV doc pm : Value) (an : Option Addr) (cdv ct : Value) (us : List Value), us.length = ps.length → bindArgs (PySem.W.fnOf x qual (defArgs st) (defBody st) (defScope st) .none kV doc pm an cdv ct) ⟨us, []⟩ = pure (ps.zip us)) : MFact K T X x k F := by
  have hb := FD.bindsN b
  obtain ⟨oc, od, dV, kV, doc, pm, an, cdv, ct, osl, rfl, lk, hcd, hD, hK⟩ := FD.ex
  exact ⟨f, x, qual, _, _, _, dV, kV, doc, pm, cdv, ct, oc, an, od, osl, N, ps, a, lk, hcd, S, h1, h2, h3, hb⟩
theorem mvfact_of {f : Addr} {qual pv : Str} {kf : Nat} {fd : FuncData} (FD : FunD K x qual (defArgs st) (defBody st) (defScope st) [] [] f fd) (a : MAt K x f 0) (S : FnScope N (ps ++ [pv]) (defScope st)) (h1 : ps.length = kf) (h2 : N.length = F.ns)
    (h3 : chkB T X N F.body (defScope st) (defBody st) = true)
    (b : ∀ (kV doc pm : Value) (an : Option Addr) (cdv ct : Value) (us rest : List Value), us.length = ps.length → bindArgs (PySem.W.fnOf x qual (defArgs st) (defBody st) (defScope st) .none kV doc pm an cdv ct) ⟨us ++ rest, []⟩ = (newTuple rest >>= fun t => pure (ps.zip us ++ [(pv, t)]))) : MVFact K T X x F kf := by
  obtain ⟨oc, od, dV, kV, doc, pm, an, cdv, ct, osl, rfl, lk, hcd, hD, hK⟩ := FD.ex
  rcases hD with ⟨_, rfl⟩ | ⟨e, _⟩
  case inr => exact absurd rfl e
  exact ⟨f, x, qual, _, _, _, _, kV, doc, pm, cdv, ct, oc, an, od, osl, N, ps, pv, a, lk, hcd, S, h1, h2, h3, fun us rest hu => b kV doc pm an cdv ct us rest hu⟩
theorem ifact_of {w : Bool} {f : Addr} {qual : Str} {fd : FuncData} {kws : List (Str × V)} {dds : List D} {mv : List Value} {mV : List V} (FD : FunD K x qual (defArgs st) (defBody st) (defScope st) [] kws f fd) (a : Mk K (pilA K) f) (S : FnScope N ps (defScope st)) (h1 : ps.length = F.np) (h2 : N.length = F.ns)
    (h3 : chkB T X N F.body (defScope st) (defBody st) = true) (b : KBn K fd ps 2 (if w then ["multiple"] else []) (fun us ws => us ++ (mv ++ ws)) (fun vs zs => vs ++ (mV ++ zs)))
    (r : (w = true ∧ mV = [] ∧ dds = []) ∨ (w = false ∧ ∀ m H, RDs K m H dds mV)) : IFact K T X w F dds := by
  obtain ⟨oc, od, dV, kV, doc, pm, an, cdv, ct, osl, rfl, lk, hcd, hD, hK⟩ := FD.ex
  refine ⟨f, x, qual, _, _, _, dV, kV, doc, pm, cdv, ct, oc, an, od, osl, N, ps, _, _, a, lk, hcd, S, h1, h2, h3, b, fun m H ds vs zs e1 e2 rd => ?_⟩
  rcases r with ⟨rfl, rfl, rfl⟩ | ⟨rfl, r⟩
  · rw [List.append_nil, List.nil_append]
    exact rd
  · have e3 : zs = [] := List.length_eq_zero_iff.mp e2
    subst e3
    rw [List.append_nil] at rd
    rw [List.append_nil]
    exact rd.append (r m H)
theorem cfact_int {i : Int} (hm : ∃ t, mg x = some (.int i t)) : CFact K mg x (.int i) := by
  obtain ⟨t, e⟩ := hm
  exact ⟨.int i, _, e, ⟨t, rfl⟩, fun m H => rfl⟩
def dvD : D → He.Dv
  | .int i => .int i
  | .str x => .str x
  | .bl b => .bl b
  | _ => .non
theorem rds_flat {m : Pl} {H : Hp} : ∀ xs : List D, xs.all flatD = true → RDs K m H xs ((xs.map dvD).map (He.Dv.v K))
  | [], _ => rfl
  | x :: r, hx => by
    have hx : (flatD x && r.all flatD) = true := hx
    obtain ⟨h1, h2⟩ := Bool.and_eq_true_iff.mp hx
    refine ⟨_, _, rfl, ?_, rds_flat r h2⟩
    cases x <;> first | rfl | cases h1
theorem cfact_tup {xs : List D} (hm : mg x = some (.ref (He.ga K x))) (ht : He.tupB K x (xs.map dvD) = true) (hf : xs.all flatD = true) : CFact K mg x (.tup xs) :=
  ⟨.ref (He.ga K x), _, hm, rfl, fun m H => ⟨_, _, rfl, He.tupB_ok ht H, rds_flat xs hf⟩⟩
theorem xfact_of {a : Addr} (ha : a = He.ga K x) (hm : mg x = some (.ref (He.ga K x))) (hx : (He.Fa.exc x).ok K = true) : XFact K mg x a := by
  subst ha
  obtain ⟨c1, c2, c3, c4⟩ := He.exc_ok hx
  exact ⟨_, _, _, _, PySem.F.excBase_ValueError, c1, hm, c2, c3, c4⟩
end
/-! ### _law_error -/
section
variable {K : PySem.W.Frag} {mg : Str → Option Value}
theorem ecls_of {xs : List Str} (hx : ∀ x ∈ xs, x ∈ hnames) (hc : ∀ x ∈ xs, ecB K x = true) (hg : ∀ k, k < 8 → mg (hnm k) = some (.ref (He.ga K (hnm k)))) (hp : mg "PrintError" = some (.ref (He.ga K "PrintError"))) :
    ∀ j k, (xs.map fun x => [D.str x, .bl true])[j]? = some k → ∃ x, k = [.str x, .bl true] ∧ EClass K mg (He.ga K (xs.getD j ("" : Str))) x := by
  intro j k h
  rw [List.getElem?_map] at h
  obtain ⟨x, e1, e2⟩ := Option.map_eq_some_iff.mp h
  have hm := List.mem_of_getElem? e1
  have eg : xs.getD j ("" : Str) = x := by rw [List.getD_eq_getElem?_getD, e1]; rfl
  have c := hc x hm
  unfold ecB at c
  simp only [Bool.and_eq_true] at c
  obtain ⟨⟨⟨⟨⟨⟨⟨⟨⟨⟨c1, c2⟩, c3⟩, c4⟩, c5⟩, c6⟩, c7⟩, c8⟩, c9⟩, c10⟩, c11⟩ := c
  refine ⟨x, e2.symm, hx x hm, fun cpe hcp => ?_, ?_, fun k hk => ?_, ?_⟩
  · have := hp.symm.trans hcp
    cases this
    rw [eg]
    exact of_decide_eq_true c9
  · rw [eg]
    exact ⟨of_decide_eq_true c1, of_decide_eq_true c2, of_decide_eq_true c3, c4, of_decide_eq_true c5, of_decide_eq_true c6, of_decide_eq_true c7, of_decide_eq_true c8⟩
  · rw [eg]
    refine ⟨_, hg k hk, of_decide_eq_true (List.all_eq_true.mp c10 k ?_)⟩
    match k, hk with
    | 0, _ => decide
    | 1, _ => decide
    | 2, _ => decide
    | 3, _ => decide
    | 4, _ => decide
    | 5, _ => decide
    | 6, _ => decide
    | 7, _ => decide
  · rw [eg]
    exact of_decide_eq_true c11
theorem efact_of {ca : Nat → Addr} {ks : List (List D)} {x : Str} {st : Stmt} {fd : FuncData} (FD : FunD K x x (defArgs st) (defBody st) (defScope st) [] [] (He.ga K x) fd) (hx : x = "_law_error") (hm : mg x = some (.ref (He.ga K x))) (S : FnScope NE ["call", "a", "b", "c"] (defScope st))
    (h3 : chkErr hnm hhl (defScope st) (defBody st) = true)
    (b : ∀ (kV doc pm : Value) (an : Option Addr) (cdv ct : Value) (us : List Value), us.length = (["call", "a", "b", "c"] : List Str).length → bindArgs (PySem.W.fnOf x x (defArgs st) (defBody st) (defScope st) .none kV doc pm an cdv ct) ⟨us, []⟩ = pure ((["call", "a", "b", "c"] : List Str).zip us))
    (hp : mg "PrintError" = some (.ref (He.ga K "PrintError"))) (hi : mg "isinstance" = none) (hv : mg "ValueError" = none) (hc : ∀ j k, ks[j]? = some k → ∃ x, k = [.str x, .bl true] ∧ EClass K mg (ca j) x) : EFact K mg ca ks := by
  have hb := FD.bindsN b
  obtain ⟨oc, od, dV, kV, doc, pm, an, cdv, ct, osl, rfl, lk, hcd, hD, hK⟩ := FD.ex
  exact ⟨He.ga K x, x, x, _, _, _, dV, kV, doc, pm, cdv, ct, oc, an, od, osl, hx ▸ hm, FD.kp, lk, hcd, S, hb, h3, ⟨_, hp⟩, hi, hv, hc⟩
end
/-! ### all of them -/
def AllE (P : Nat → Ent → Prop) : Nat → List Ent → Prop
  | _, [] => True
  | i, e :: r => P i e ∧ AllE P (i + 1) r
theorem AllE.get {P : Nat → Ent → Prop} : ∀ {es : List Ent} {k i : Nat} {e : Ent}, AllE P k es → es[i]? = some e → P (k + i) e
  | [], _, _, _, _, h => by simp at h
  | x :: r, k, 0, e, a, h => by
    cases Option.some.inj h
    exact a.1
  | x :: r, k, i + 1, e, a, h => by
    have := AllE.get a.2 (i := i) (e := e) h
    rw [Nat.add_assoc, Nat.add_comm 1 i] at this
    exact this
def EntP (K : PySem.W.Frag) (mg : Str → Option Value) (nm : Nat → Str) (G : Nat → Option Ent) (X : Tx) (ca : Nat → Addr) (i : Nat) : Ent → Prop
  | .err f ks => EFact K mg ca ks ∧ (tbOf nm G).has f = true ∧ nm f = nm i
  | .con d => CFact K mg (nm i) d
  | .fn F dds => DFact K mg (tbAt nm G (nm i)) X (nm i) F dds
  | .fnv F kf => VFact K mg (tbOf nm G) X (nm i) F kf
  | .lam _ => True
  | .erl _ ks => EFact K mg ca ks
  | .gen F => GFact K mg (tbOf nm G) (nm i) F
  | .mth k F => MFact K (tbOf nm G) X (nm i) k F
  | .mthv F kf => MVFact K (tbOf nm G) X (nm i) F kf
  | .ini w F dds => IFact K (tbOf nm G) X w F dds
  | .cc d => CCFact K (nm i) d
def BsP (es : List Ent) (nm : Nat → Str) (i : Nat) : Ent → Prop
  | .con _ => True
  | .fnv _ _ => True
  | .err _ _ => True
  | .lam _ => True
  | .erl _ _ => True
  | .gen _ => True
  | .mth _ _ => True
  | .mthv _ _ => True
  | .ini _ _ _ => True
  | .cc _ => True
  | .fn F _ => ∃ j, es[j]? = some (.fn F []) ∧ nm j = nm i
theorem whole_mk {K : PySem.W.Frag} {mg : Str → Option Value} {nm : Nat → Str} {es : List Ent} {X : Tx} {ca : Nat → Addr} (b : ∀ x ∈ bltNames, mg x = none) (a : AllE (EntP K mg nm (es[·]?) X ca) 0 es) (s : AllE (BsP es nm) 0 es)
    (x : ∀ k, X.isX k = true → XFact K mg (X.xn k) (ca k)) (gf : ∀ q ∈ gfs, (tbOf nm (es[·]?)).has q.1 = true ∧ nm q.1 = q.2 ∧ mg q.2 = some (.ref (He.ga K q.2))) (pl : hasPile = true → PileF K mg) : Whole K mg nm (es[·]?) X ca := by
  refine ⟨b, fun i d e => ?_, fun i F dds e => ?_, fun i F dds e => ?_, fun i f ks e => ?_, fun i f ks e => ?_, fun i F e => ?_, fun i F dds e => ?_, x, gf, pl, fun i k F e => ?_, fun i F kf e => ?_, fun i w F dds e => ?_, fun i d e => ?_⟩
  · have := a.get e
    rw [Nat.zero_add] at this
    exact this
  · have := a.get e
    rw [Nat.zero_add] at this
    exact this
  · have := a.get e
    rw [Nat.zero_add] at this
    exact this
  · have := a.get e
    rw [Nat.zero_add] at this
    exact this
  · have := a.get e
    rw [Nat.zero_add] at this
    exact this
  · have := a.get e
    rw [Nat.zero_add] at this
    exact this
  · have := s.get e
    rw [Nat.zero_add] at this
    exact this
  · have := a.get e
    rw [Nat.zero_add] at this
    exact this
  · have := a.get e
    rw [Nat.zero_add] at this
    exact this
  · have := a.get e
    rw [Nat.zero_add] at this
    exact this
  · have := a.get e
    rw [Nat.zero_add] at this
    exact this
/-! ### the law's end -/
theorem lawAt {l : PySem.W.OpenLaw} {w : World} {CX : CXT} {k n : Nat} {x : Str} {mg : Str → Option Value} {fa : Addr} {h : Heap} {hfa : List He.Fa} {ts : Tp} {ec : List Str} {fn : List He.DefD} {da : List He5.DefA} {K : PySem.W.Frag} {fd : FuncData} {sp : Sp} (KX : K.In h) (c : SaysM hfa ts ec fn da w h K)
    (hb : ∀ (s : Shared) (u : Value), BindsTo s fd ⟨[u], []⟩ [(x, u)]) (hsp : ∀ (H : Hp) (a : Addr) (ns : List Int), ns.length ≤ n → LamX.Tabs (tabsK K) H → SqL K H a (ns.map V.int) → sp [.ref a] H (fun v _ => v = .bl true) fun _ _ _ => False)
    (hF : ∀ base : Heap, K.In base → base.Ns mainGlobals mg → LamT K mg base → FnOk l.prog w K mg base CX k fa fd [x] sp) : LamX.LawAtS l w K CX k n x mg fa h := by
  refine ⟨fd, lamTf.map (He.cT K), sp, fun p hp => ?_, fun p hp => ?_, fun p hp => ?_, hb, fun H a ns h1 _ h2 h3 => hsp H a ns h1 (fun p hp => ?_) h3, fun base KB GB TB => hF base KB GB ⟨fun y hy => ?_, fun y hy z hz e => ?_⟩⟩
  · obtain ⟨d, hd, rfl⟩ := List.mem_map.mp hp
    exact c.empty d hd
  · obtain ⟨d, hd, rfl⟩ := List.mem_map.mp hp
    exact c.out d hd
  · obtain ⟨d, hd, rfl⟩ := List.mem_map.mp hp
    exact PySem.W.codeHd_of_K KX (c.hd d hd)
  · obtain ⟨y, hy, rfl⟩ := List.mem_map.mp hp
    exact LamX.TabS.nil (h2 _ (List.mem_map.mpr ⟨(y, none), List.mem_map.mpr ⟨y, hy, rfl⟩, rfl⟩))
  · exact TB _ (List.mem_map.mpr ⟨(y, none), List.mem_map.mpr ⟨y, hy, rfl⟩, rfl⟩)
  · have := List.all_eq_true.mp (List.all_eq_true.mp (sm_ex c).2 y hy) z hz
    rw [Bool.or_eq_true] at this
    rcases this with q | q
    · exact of_decide_eq_true q
    · rw [decide_eq_true e] at q
      cases q
theorem sp_ofS {K : PySem.W.Frag} {ca : Nat → Addr} {CT : CTb} {f : Nat} {s' : Sto} {ns : List Int} (e : CT f [.scr ns] [] = some (.ok (.bl true) s')) (H : Hp) (a : Addr) (hT : LamX.Tabs (tabsK K) H) (hS : SqL K H a (ns.map V.int)) :
    spF K ca CT f [.ref a] H (fun v _ => v = .bl true) fun _ _ _ => False := by
  refine ⟨0, ⟨[], []⟩, [], [.scr ns], Nat.zero_le _, ⟨rfl, List.nodup_nil, fun n c h => by simp at h, (fun z hz => by cases hz), hT⟩, ?_, ?_⟩
  · refine ⟨.ref a, [], rfl, ⟨a, rfl, ?_⟩, rfl⟩
    rcases hS with (h | ⟨o, h⟩) | h
    · exact .inr ⟨(fun z => z.elim (fun z => (nomatch z)) fun z => (nomatch z)), h⟩
    · exact .inl (.inl ⟨o, h⟩)
    · exact .inl (.inr (.inr h))
  · rw [e]
    exact fun m' H' v _ _ r => r
section
variable {K : PySem.W.Frag} {mg : Str → Option Value} {nm : Nat → Str} {G : Nat → Option Ent} {X : Tx} {ca : Nat → Addr} {P : Program} {w : World} {base : Heap}
theorem law_fn2 (W : Whole K mg nm G X ca) (LT : LamT K mg base) {n i : Nat} {F : Fn} {N ps : List Str} {x : Str} {st : Stmt} (hi : G i = some (.fn F [])) {fd : FuncData} (FD : FunD K x x (defArgs st) (defBody st) (defScope st) [] [] (He.ga K x) fd) (S : FnScope N ps (defScope st)) (h1 : ps.length = F.np) (h2 : N.length = F.ns)
    (h3 : chkB (tbAt nm G x) X N F.body (defScope st) (defBody st) = true) : FnOk P w K mg base (L2N.CX P w) (n + 1) (He.ga K x) fd ps (spF K ca (cal G (n + 1)) i) := by
  obtain ⟨oc, od, dV, kV, doc, pm, an, cdv, ct, osl, rfl, lk, hcd, hD, hK⟩ := FD.ex
  refine fn_ok (T := tbAt nm G x) (X := X) (CT := cal G n) (F := F) lk hcd S h1 h2 h3 (fun ds s => ?_) fun A outer s0 H E L hr2 => ?_
  · simp only [cal, hi, List.append_nil]
  · have tk : L2N.Takes (cxOf (L2N.CX P w) P w K mg base N x (defScope st) (He.ga K x) cdv A outer s0 H E) (fun cls d _ H => E cls d H) := L2N.takes_of rfl rfl rfl rfl
    have gk := gok_at (n := n) (x := x) W LT (C := ⟨cxOf (L2N.CX P w) P w K mg base N x (defScope st) (He.ga K x) cdv A outer s0 H E, L, fun cls d _ H => E cls d H, ca⟩) rfl rfl rfl rfl rfl rfl rfl S.nd hr2 tk (fun _ _ => rfl)
      (fun _ => ⟨rfl, code_of lk hcd⟩) fun j _ => defs_ok W LT j
    refine ⟨gk, passes_of rfl, fun _ => rfl, S.kind, fun k hk p p2 pos msg jj hg hdb => ?_⟩
    obtain ⟨bmB, newId, initId, B, x1, x2, x3, x4, x5, x6⟩ := W.exc k hk
    exact L2N.pmk_own x1 x2 x3 x4 (raises_own x5 x6) hg hdb
end
end EV

/-! the IR of a text, printed by gen.py -/
namespace EV
open PySem PySem.Spec PyProof.Rows L2
abbrev i_law : Nat := 0
abbrev i_page_at : Nat := 1
abbrev i_row : Nat := 2
abbrev i_l_bags : Nat := 3
abbrev i_l_take : Nat := 4
abbrev i_place_of : Nat := 5
abbrev i_l_back : Nat := 6
abbrev i_length : Nat := 7
abbrev i_l_far_draw : Nat := 8
abbrev i_m_len : Nat := 9
abbrev i_m_words : Nat := 10
abbrev i_m_row : Nat := 11
abbrev i_m_apply : Nat := 12
abbrev i_m_after : Nat := 13
abbrev i_walk : Nat := 14
abbrev i_l_after : Nat := 15
abbrev i_l_job : Nat := 16
abbrev i_l_words : Nat := 17
abbrev i_item_of : Nat := 18
abbrev i_is_integer : Nat := 19
abbrev i_span_of : Nat := 20
abbrev i_need_pages : Nat := 21
abbrev i_need_pages_1 : Nat := 22
abbrev i_need_job : Nat := 23
abbrev i_items_of : Nat := 24
abbrev i_SHORT : Nat := 25
abbrev i_l_bag : Nat := 26
abbrev i_index_of : Nat := 27
abbrev i_after_word : Nat := 28
abbrev i_is_word : Nat := 29
abbrev i_m_init_2 : Nat := 30
abbrev i_rounded : Nat := 31
abbrev i_is_job : Nat := 32
abbrev i_l_draws : Nat := 33
abbrev i_l_cell_at : Nat := 34
abbrev i_WORDS : Nat := 35
abbrev i_is_multiple : Nat := 36
abbrev i_MULTIPLES : Nat := 37
abbrev x_InvalidNumber : Nat := 0
abbrev x_InvalidWord : Nat := 1
abbrev x_InvalidPages : Nat := 2
abbrev x_InvalidJob : Nat := 3
def F_law : Fn := ⟨1, 14, (.seq (.for_ (.tnm 1) (.it (.call i_l_bags (.cons (.var 0) (.cons (.cint 6) .nil)))) (.seq (.par [10, 11] (.cons (.call i_l_job (.cons (.var 1) (.cons (.cint 5) .nil))) (.cons (.call i_l_words (.cons (.var 1) (.cons (.cint 5) .nil))) .nil))) (.seq (.set 2 (.tup (.cons (.idx (.var 10) (.cint 0)) (.cons (.bin .add (.idx (.var 10) (.cint 1)) (.var 11)) .nil)))) (.seq (.set 3 (.call i_l_take (.cons (.var 1) (.cons (.cint 301) .nil)))) (.seq (.set 4 (.call i_row (.cons (.var 10) (.cons (.var 3) .nil)))) (.seq (.for_ (.tnm 5) (.it (.var 11)) (.seq (.set 4 (.call i_l_after (.cons (.var 4) (.cons (.var 5) .nil)))) .skip)) (.seq (.ifs (.or (.cmp .ne (.call i_row (.cons (.var 2) (.cons (.var 3) .nil))) (.var 4)) (.cmp .ne (.lgn i_walk (.cons (.var 2) (.cons (.var 3) .nil))) (.var 4))) (.seq (.ret (.cbl false)) .skip) .skip) (.seq (.ifs (.cmp .ne (.call i_length (.cons (.var 2) (.cons (.var 3) .nil))) (.bi .len (.cons (.var 4) .nil))) (.seq (.ret (.cbl false)) .skip) .skip) (.seq (.set 6 (.cmt i_m_after (.cons (.var 10) (.cons (.var 3) .nil)))) (.seq (.for_ (.tnm 5) (.it (.var 11)) (.seq (.expr (.mth i_m_apply (.var 6) (.cons (.var 5) .nil))) .skip)) (.seq (.ifs (.or (.cmp .ne (.prp i_m_row (.var 6)) (.bi .tuple (.cons (.var 4) .nil))) (.or (.cmp .ne (.prp i_m_words (.var 6)) (.bin .add (.idx (.var 10) (.cint 1)) (.var 11))) (.cmp .ne (.oln i_m_len (.var 6)) (.bi .len (.cons (.var 4) .nil))))) (.seq (.ret (.cbl false)) .skip) .skip) (.seq (.set 7 (.call i_l_far_draw (.cons (.var 1) (.cons (.bin .pow (.cint 10) (.cint 14)) .nil)))) (.seq (.set 8 (.call i_length (.cons (.var 10) (.cons (.var 7) .nil)))) (.seq (.set 9 (.idx (.call i_l_back (.cons (.var 11) (.cons (.var 8) (.cons (.cint 0) .nil)))) (.cint 0))) (.seq (.ifs (.cmp .ne (.call i_length (.cons (.var 2) (.cons (.var 7) .nil))) (.var 9)) (.seq (.ret (.cbl false)) .skip) .skip) (.seq (.ifs (.cmp .gt (.var 9) (.cint 0)) (.seq (.for_ (.tnm 12) (.it (.tup (.cons (.cint 0) (.cons (.bin .sub (.var 9) (.cint 1)) (.cons (.call i_l_take (.cons (.var 1) (.cons (.var 9) .nil))) .nil))))) (.seq (.set 13 (.call i_page_at (.cons (.var 10) (.cons (.var 7) (.cons (.idx (.call i_l_back (.cons (.var 11) (.cons (.var 8) (.cons (.var 12) .nil)))) (.cint 1)) .nil))))) (.seq (.ifs (.or (.cmp .ne (.call i_page_at (.cons (.var 2) (.cons (.var 7) (.cons (.var 12) .nil)))) (.var 13)) (.and (.cmp .gt (.var 13) (.cint 0)) (.cmp .ne (.call i_place_of (.cons (.var 2) (.cons (.var 7) (.cons (.var 13) .nil)))) (.var 12)))) (.seq (.ret (.cbl false)) .skip) .skip) .skip))) .skip) .skip) .skip)))))))))))))))) (.seq (.ifs (.cmp .ne (.call i_row (.cons (.tup (.cons (.cint 1) (.cons (.tup (.cons (.cstr "odds") (.cons (.cstr "turn") (.cons (.cstr "rest") .nil)))) .nil))) (.cons (.cint 9) .nil))) (.lst false (.cons (.cint 3) (.cons (.cint 1) .nil)))) (.seq (.ret (.cbl false)) .skip) .skip) (.seq (.ret (.cmp .eq (.call i_page_at (.cons (.tup (.cons (.cint 1) (.cons (.tup (.cons (.cstr "evens") (.cons (.cstr "turn") .nil))) .nil))) (.cons (.bin .pow (.cint 10) (.cint 6)) (.cons (.cint 1) .nil)))) (.cint 999998))) .skip))), true⟩
def F_page_at : Fn := ⟨3, 4, (.seq (.expr (.call i_need_job (.cons (.var 0) .nil))) (.seq (.expr (.call i_need_pages_1 (.cons (.var 1) .nil))) (.seq (.set 3 (.call i_span_of (.cons (.var 0) (.cons (.var 1) .nil)))) (.seq (.ifs (.not (.call i_is_integer (.cons (.var 2) (.cons (.cint 0) (.cons (.bin .sub (.idx (.var 3) (.cint 2)) (.cint 1)) .nil))))) (.seq (.rse x_InvalidNumber) .skip) .skip) (.seq (.ret (.call i_item_of (.cons (.var 3) (.cons (.var 1) (.cons (.var 2) .nil))))) .skip))))), true⟩
def F_row : Fn := ⟨2, 2, (.seq (.expr (.call i_need_job (.cons (.var 0) .nil))) (.seq (.expr (.call i_need_pages (.cons (.var 1) (.cons (.g i_SHORT) .nil)))) (.seq (.ret (.call i_items_of (.cons (.call i_span_of (.cons (.var 0) (.cons (.var 1) .nil))) (.cons (.var 1) .nil)))) .skip))), true⟩
def F_l_bags : Fn := ⟨2, 3, (.seq (.ret (.comp [2] (.tnm 2) (.call i_l_bag (.cons (.var 0) (.cons (.var 2) .nil))) (.rng1 (.bi .max (.cons (.cint 1) (.cons (.bi .min (.cons (.var 1) (.cons (.bi .len (.cons (.var 0) .nil)) .nil))) .nil)))) (.cbl true))) .skip), false⟩
def F_l_take : Fn := ⟨2, 2, (.seq (.sto (.var 0) (.cint 1) (.bin .add (.idx (.var 0) (.cint 1)) (.cint 1))) (.seq (.ret (.bin .mod (.idx (.idx (.var 0) (.cint 0)) (.bin .mod (.idx (.var 0) (.cint 1)) (.bi .len (.cons (.idx (.var 0) (.cint 0)) .nil)))) (.var 1))) .skip)), true⟩
def F_place_of : Fn := ⟨3, 3, (.seq (.expr (.call i_need_job (.cons (.var 0) .nil))) (.seq (.expr (.call i_need_pages_1 (.cons (.var 1) .nil))) (.seq (.ifs (.not (.call i_is_integer (.cons (.var 2) (.cons (.cint 1) (.cons (.var 1) .nil))))) (.seq (.rse x_InvalidNumber) .skip) .skip) (.seq (.ret (.call i_index_of (.cons (.call i_span_of (.cons (.var 0) (.cons (.var 1) .nil))) (.cons (.var 2) .nil)))) .skip)))), true⟩
def F_l_back : Fn := ⟨3, 6, (.seq (.set 3 (.lst true (.cons (.var 1) .nil))) (.seq (.for_ (.tnm 4) (.it (.var 0)) (.seq (.set 1 (.idx (.var 3) (.neg (.cint 1)))) (.seq (.ifs (.cmp .isin (.var 4) (.tup (.cons (.cstr "odds") (.cons (.cstr "half") .nil)))) (.seq (.set 1 (.bin .fdiv (.bin .add (.var 1) (.cint 1)) (.cint 2))) .skip) (.seq (.ifs (.cmp .isin (.var 4) (.tup (.cons (.cstr "evens") (.cons (.cstr "rest") .nil)))) (.seq (.set 1 (.bin .fdiv (.var 1) (.cint 2))) .skip) (.seq (.ifs (.cmp .ne (.var 4) (.cstr "turn")) (.seq (.set 1 (.bi .max (.cons (.cint 0) (.cons (.bin .sub (.var 1) (.cint 1)) .nil)))) .skip) .skip) .skip)) .skip)) (.seq (.app (.var 3) (.var 1)) .skip)))) (.seq (.for_ (.tnm 5) (.rng3 (.bin .sub (.bi .len (.cons (.var 0) .nil)) (.cint 1)) (.neg (.cint 1)) (.neg (.cint 1))) (.seq (.par [4, 1] (.cons (.idx (.var 0) (.var 5)) (.cons (.idx (.var 3) (.var 5)) .nil))) (.seq (.ifs (.cmp .eq (.var 4) (.cstr "turn")) (.seq (.set 2 (.bin .sub (.bin .sub (.var 1) (.cint 1)) (.var 2))) .skip) (.seq (.ifs (.cmp .isin (.var 4) (.tup (.cons (.cstr "odds") (.cons (.cstr "evens") .nil)))) (.seq (.set 2 (.bin .add (.bin .mul (.cint 2) (.var 2)) (.bi .int (.cons (.cmp .eq (.var 4) (.cstr "evens")) .nil)))) .skip) (.seq (.ifs (.cmp .isin (.var 4) (.tup (.cons (.cstr "rest") (.cons (.cstr "skip") .nil)))) (.seq (.set 2 (.bin .add (.var 2) (.ite (.cmp .eq (.var 4) (.cstr "rest")) (.bin .fdiv (.bin .add (.var 1) (.cint 1)) (.cint 2)) (.cint 1)))) .skip) .skip) .skip)) .skip)) .skip))) (.seq (.ret (.tup (.cons (.idx (.var 3) (.neg (.cint 1))) (.cons (.var 2) .nil)))) .skip)))), true⟩
def F_length : Fn := ⟨2, 2, (.seq (.expr (.call i_need_job (.cons (.var 0) .nil))) (.seq (.expr (.call i_need_pages_1 (.cons (.var 1) .nil))) (.seq (.ret (.idx (.call i_span_of (.cons (.var 0) (.cons (.var 1) .nil))) (.cint 2))) .skip))), true⟩
def F_l_far_draw : Fn := ⟨2, 4, (.seq (.par [2, 3] (.cons (.cint 0) (.cons (.var 1) .nil))) (.seq (.whl 400 (.cmp .gt (.var 3) (.cint 0)) (.seq (.par [2, 3] (.cons (.bin .add (.bin .mul (.cint 1000) (.var 2)) (.call i_l_take (.cons (.var 0) (.cons (.cint 1000) .nil)))) (.cons (.bin .fdiv (.var 3) (.cint 1000)) .nil))) .skip)) (.seq (.ret (.idx (.lst false (.cons (.bin .mod (.var 2) (.var 1)) (.cons (.cint 0) (.cons (.bin .sub (.var 1) (.cint 1)) (.cons (.bin .mod (.var 2) (.var 1)) .nil))))) (.call i_l_take (.cons (.var 0) (.cons (.cint 4) .nil))))) .skip))), true⟩
def F_walk : Fn := ⟨2, 4, (.seq (.expr (.call i_need_job (.cons (.var 0) .nil))) (.seq (.expr (.call i_need_pages_1 (.cons (.var 1) .nil))) (.seq (.set 2 (.call i_span_of (.cons (.var 0) (.cons (.var 1) .nil)))) (.seq (.ret (.comp [3] (.tnm 3) (.call i_item_of (.cons (.var 2) (.cons (.var 1) (.cons (.var 3) .nil)))) (.rng1 (.idx (.var 2) (.cint 2))) (.cbl true))) .skip)))), true⟩
def F_l_after : Fn := ⟨2, 3, (.seq (.ifs (.cmp .eq (.var 1) (.cstr "turn")) (.seq (.ret (.rev (.var 0))) .skip) .skip) (.seq (.ifs (.cmp .isin (.var 1) (.tup (.cons (.cstr "odds") (.cons (.cstr "evens") .nil)))) (.seq (.ret (.stp (.var 0) (.bi .int (.cons (.cmp .eq (.var 1) (.cstr "evens")) .nil)))) .skip) .skip) (.seq (.set 2 (.bin .fdiv (.bin .add (.bi .len (.cons (.var 0) .nil)) (.cint 1)) (.cint 2))) (.seq (.ifs (.cmp .isin (.var 1) (.tup (.cons (.cstr "half") (.cons (.cstr "rest") .nil)))) (.seq (.ret (.ite (.cmp .eq (.var 1) (.cstr "half")) (.slc (.var 0) .nil (.ps (.var 2))) (.slc (.var 0) (.ps (.var 2)) .nil))) .skip) .skip) (.seq (.ret (.ite (.cmp .eq (.var 1) (.cstr "skip")) (.slc (.var 0) (.ps (.cint 1)) .nil) (.slc (.var 0) .nil (.ps (.bi .max (.cons (.cint 0) (.cons (.bin .sub (.bi .len (.cons (.var 0) .nil)) (.cint 1)) .nil))))))) .skip))))), true⟩
def F_l_job : Fn := ⟨2, 2, (.seq (.ret (.tup (.cons (.idx (.lst false (.cons (.cint 1) (.cons (.cint 1) (.cons (.cint 2) (.cons (.cint 4) (.cons (.cint 8) .nil)))))) (.call i_l_take (.cons (.var 0) (.cons (.cint 5) .nil)))) (.cons (.call i_l_words (.cons (.var 0) (.cons (.var 1) .nil))) .nil)))) .skip), true⟩
def F_l_words : Fn := ⟨2, 7, (.seq (.set 2 (.lst false (.cons (.cstr "cut") (.cons (.cstr "evens") (.cons (.cstr "half") (.cons (.cstr "odds") (.cons (.cstr "rest") (.cons (.cstr "skip") (.cons (.cstr "turn") .nil))))))))) (.seq (.par [3, 4] (.cons (.lst false (.cons (.idx (.var 2) (.call i_l_take (.cons (.var 0) (.cons (.cint 7) .nil)))) (.cons (.idx (.var 2) (.call i_l_take (.cons (.var 0) (.cons (.cint 7) .nil)))) (.cons (.cstr "turn") .nil)))) (.cons (.tup .nil) .nil))) (.seq (.for_ (.tnm 5) (.rng1 (.call i_l_take (.cons (.var 0) (.cons (.bin .add (.var 1) (.cint 1)) .nil)))) (.seq (.set 6 (.idx (.var 2) (.call i_l_take (.cons (.var 0) (.cons (.cint 7) .nil))))) (.seq (.ifs (.cmp .eq (.call i_l_take (.cons (.var 0) (.cons (.cint 2) .nil))) (.cint 0)) (.seq (.set 6 (.idx (.var 3) (.call i_l_take (.cons (.var 0) (.cons (.cint 3) .nil))))) .skip) .skip) (.seq (.set 4 (.bin .add (.var 4) (.tup (.cons (.var 6) .nil)))) .skip)))) (.seq (.ret (.var 4)) .skip)))), true⟩
def F_item_of : Fn := ⟨3, 7, (.seq (.unp (.ttp (.cons (.tnm 3) (.cons (.tnm 4) (.cons (.tnm 5) .nil)))) (.var 0)) (.seq (.set 6 (.bin .add (.var 3) (.bin .mul (.var 4) (.var 2)))) (.seq (.ret (.ite (.and (.cmp .lt (.var 2) (.var 5)) (.cmp .le (.var 6) (.var 1))) (.var 6) (.cint 0))) .skip))), true⟩
def F_is_integer : Fn := ⟨3, 3, (.seq (.ret (.and (.isi (.var 0) [.int]) (.and (.not (.isi (.var 0) [.bool])) (.chn .le .le (.var 1) (.var 0) (.var 2))))) .skip), true⟩
def F_span_of : Fn := ⟨2, 4, (.seq (.set 2 (.tup (.cons (.cint 1) (.cons (.cint 1) (.cons (.call i_rounded (.cons (.idx (.var 0) (.cint 0)) (.cons (.var 1) .nil))) .nil))))) (.seq (.for_ (.tnm 3) (.it (.idx (.var 0) (.cint 1))) (.seq (.set 2 (.call i_after_word (.cons (.var 2) (.cons (.var 3) .nil)))) .skip)) (.seq (.ret (.var 2)) .skip))), true⟩
def F_need_pages : Fn := ⟨2, 2, (.seq (.ifs (.not (.call i_is_integer (.cons (.var 0) (.cons (.cint 0) (.cons (.var 1) .nil))))) (.seq (.rse x_InvalidPages) .skip) .skip) .skip), true⟩
def F_need_job : Fn := ⟨1, 1, (.seq (.ifs (.not (.call i_is_job (.cons (.var 0) .nil))) (.seq (.rse x_InvalidJob) .skip) .skip) .skip), true⟩
def F_items_of : Fn := ⟨2, 3, (.seq (.ret (.comp [2] (.tnm 2) (.call i_item_of (.cons (.var 0) (.cons (.var 1) (.cons (.var 2) .nil)))) (.rng1 (.idx (.var 0) (.cint 2))) (.cbl true))) .skip), true⟩
def F_l_bag : Fn := ⟨2, 2, (.seq (.ret (.lst true (.cons (.call i_l_draws (.cons (.call i_l_cell_at (.cons (.var 0) (.cons (.var 1) .nil))) (.cons (.cint 400) (.cons (.cint 1000) .nil)))) (.cons (.cint 0) .nil)))) .skip), false⟩
def F_index_of : Fn := ⟨2, 6, (.seq (.unp (.ttp (.cons (.tnm 2) (.cons (.tnm 3) (.cons (.tnm 4) .nil)))) (.var 0)) (.seq (.set 5 (.bin .fdiv (.bin .sub (.var 1) (.var 2)) (.var 3))) (.seq (.ret (.ite (.and (.chn .le .lt (.cint 0) (.var 5) (.var 4)) (.cmp .eq (.bin .add (.var 2) (.bin .mul (.var 3) (.var 5))) (.var 1))) (.var 5) .cnon)) .skip))), true⟩
def F_after_word : Fn := ⟨2, 5, (.seq (.unp (.ttp (.cons (.tnm 2) (.cons (.tnm 3) (.cons (.tnm 4) .nil)))) (.var 0)) (.seq (.ifs (.cmp .eq (.var 1) (.cstr "turn")) (.seq (.ret (.tup (.cons (.bin .add (.var 2) (.bin .mul (.var 3) (.bin .sub (.var 4) (.cint 1)))) (.cons (.bin .sub (.cint 0) (.var 3)) (.cons (.var 4) .nil))))) .skip) .skip) (.seq (.ifs (.cmp .eq (.var 1) (.cstr "odds")) (.seq (.ret (.tup (.cons (.var 2) (.cons (.bin .mul (.cint 2) (.var 3)) (.cons (.bin .fdiv (.bin .add (.var 4) (.cint 1)) (.cint 2)) .nil))))) .skip) .skip) (.seq (.ifs (.cmp .eq (.var 1) (.cstr "evens")) (.seq (.ret (.tup (.cons (.bin .add (.var 2) (.var 3)) (.cons (.bin .mul (.cint 2) (.var 3)) (.cons (.bin .fdiv (.var 4) (.cint 2)) .nil))))) .skip) .skip) (.seq (.ifs (.cmp .eq (.var 1) (.cstr "half")) (.seq (.ret (.tup (.cons (.var 2) (.cons (.var 3) (.cons (.bin .fdiv (.bin .add (.var 4) (.cint 1)) (.cint 2)) .nil))))) .skip) .skip) (.seq (.ifs (.cmp .eq (.var 1) (.cstr "rest")) (.seq (.ret (.tup (.cons (.bin .add (.var 2) (.bin .mul (.var 3) (.bin .fdiv (.bin .add (.var 4) (.cint 1)) (.cint 2)))) (.cons (.var 3) (.cons (.bin .fdiv (.var 4) (.cint 2)) .nil))))) .skip) .skip) (.seq (.ret (.tup (.cons (.bin .add (.var 2) (.bin .mul (.var 3) (.bi .int (.cons (.cmp .eq (.var 1) (.cstr "skip")) .nil)))) (.cons (.var 3) (.cons (.bi .max (.cons (.cint 0) (.cons (.bin .sub (.var 4) (.cint 1)) .nil))) .nil))))) .skip))))))), true⟩
def F_is_word : Fn := ⟨1, 1, (.seq (.ret (.and (.isi (.var 0) [.str]) (.cmp .isin (.var 0) (.g i_WORDS)))) .skip), true⟩
def F_rounded : Fn := ⟨2, 2, (.seq (.ret (.bin .mul (.bin .fdiv (.bin .sub (.bin .add (.var 1) (.var 0)) (.cint 1)) (.var 0)) (.var 0))) .skip), true⟩
def F_is_job : Fn := ⟨1, 2, (.seq (.ifs (.or (.not (.isi (.var 0) [.tuple])) (.or (.cmp .ne (.bi .len (.cons (.var 0) .nil)) (.cint 2)) (.not (.call i_is_multiple (.cons (.idx (.var 0) (.cint 0)) .nil))))) (.seq (.ret (.cbl false)) .skip) .skip) (.seq (.ret (.and (.isi (.idx (.var 0) (.cint 1)) [.tuple]) (.and (.cmp .le (.bi .len (.cons (.idx (.var 0) (.cint 1)) .nil)) (.cint 10)) (.bi .all (.cons (.comp [1] (.tnm 1) (.call i_is_word (.cons (.var 1) .nil)) (.it (.idx (.var 0) (.cint 1))) (.cbl true)) .nil))))) .skip)), true⟩
def F_l_draws : Fn := ⟨3, 7, (.seq (.set 3 (.lst true .nil)) (.seq (.set 4 (.bin .mul (.var 0) (.bi .int (.cons (.cmp .ge (.var 0) (.bin .pow (.cint 10) (.cint 18))) .nil)))) (.seq (.set 5 (.bin .mod (.var 0) (.cint 2305843009213693951))) (.seq (.for_ (.tnm 6) (.rng1 (.bin .add (.var 1) (.cint 3))) (.seq (.set 5 (.bin .mod (.bin .add (.bin .add (.bin .add (.bin .mul (.var 5) (.var 5)) (.bin .mul (.cint 48271) (.var 5))) (.var 6)) (.cint 1)) (.cint 2305843009213693951))) (.seq (.ifs (.and (.cmp .gt (.var 6) (.cint 2)) (.cmp .gt (.var 4) (.cint 0))) (.seq (.app (.var 3) (.bin .mod (.var 4) (.var 2))) (.seq (.set 4 (.bin .fdiv (.var 4) (.var 2))) .skip)) (.seq (.ifs (.cmp .gt (.var 6) (.cint 2)) (.seq (.app (.var 3) (.bin .mod (.bin .fdiv (.var 5) (.cint 4096)) (.var 2))) .skip) .skip) .skip)) .skip))) (.seq (.ret (.var 3)) .skip))))), true⟩
def F_l_cell_at : Fn := ⟨2, 2, (.seq (.ifs (.cmp .lt (.var 1) (.bi .len (.cons (.var 0) .nil))) (.seq (.ret (.idx (.var 0) (.var 1))) .skip) .skip) (.seq (.ret (.cint 0)) .skip)), true⟩
def F_is_multiple : Fn := ⟨1, 1, (.seq (.ret (.and (.call i_is_integer (.cons (.var 0) (.cons (.cint 1) (.cons (.cint 8) .nil)))) (.cmp .isin (.var 0) (.g i_MULTIPLES)))) .skip), true⟩
def F_m_len : Fn := ⟨1, 1, (.seq (.ret (.bi .len (.cons (.idx (.fld "shown" (.var 0)) (.neg (.cint 1))) .nil))) .skip), true⟩
def F_m_words : Fn := ⟨1, 1, (.seq (.ret (.idx (.idx (.fld "states" (.var 0)) (.neg (.cint 1))) (.cint 0))) .skip), true⟩
def F_m_row : Fn := ⟨1, 1, (.seq (.ret (.idx (.fld "shown" (.var 0)) (.neg (.cint 1)))) .skip), true⟩
def F_m_apply : Fn := ⟨2, 5, (.seq (.ifs (.not (.bi .all (.cons (.comp [4] (.tnm 4) (.call i_is_word (.cons (.var 4) .nil)) (.it (.var 1)) (.cbl true)) .nil))) (.seq (.rse x_InvalidWord) .skip) .skip) (.seq (.unp (.ttp (.cons (.tnm 2) (.cons (.tnm 3) .nil))) (.idx (.fld "states" (.var 0)) (.neg (.cint 1)))) (.seq (.for_ (.tnm 4) (.it (.var 1)) (.seq (.set 3 (.call i_after_word (.cons (.var 3) (.cons (.var 4) .nil)))) .skip)) (.seq (.app (.fld "states" (.var 0)) (.tup (.cons (.bin .add (.var 2) (.var 1)) (.cons (.var 3) .nil)))) (.seq (.app (.fld "shown" (.var 0)) (.bi .tuple (.cons (.call i_items_of (.cons (.var 3) (.cons (.idx (.fld "start" (.var 0)) (.cint 0)) .nil))) .nil))) (.seq (.ret (.idx (.var 3) (.cint 2))) .skip)))))), true⟩
def F_m_after : Fn := ⟨3, 5, (.seq (.expr (.call i_need_job (.cons (.var 1) .nil))) (.seq (.expr (.call i_need_pages (.cons (.var 2) (.cons (.g i_SHORT) .nil)))) (.seq (.set 3 (.con1 i_m_init_2 (.var 0) (.var 2) (.idx (.var 1) (.cint 0)))) (.seq (.set 4 (.idx (.var 1) (.cint 1))) (.seq (.expr (.msp i_m_apply (.var 3) (.var 4))) (.seq (.ret (.var 3)) .skip)))))), false⟩
def F_m_init : Fn := ⟨3, 3, (.seq (.expr (.call i_need_pages (.cons (.var 1) (.cons (.g i_SHORT) .nil)))) (.seq (.ifs (.not (.call i_is_multiple (.cons (.var 2) .nil))) (.seq (.rse x_InvalidNumber) .skip) .skip) (.seq (.fst (.var 0) "start" (.tup (.cons (.var 1) (.cons (.var 2) .nil)))) (.seq (.fst (.var 0) "states" (.lst true (.cons (.tup (.cons (.tup .nil) (.cons (.tup (.cons (.cint 1) (.cons (.cint 1) (.cons (.call i_rounded (.cons (.var 2) (.cons (.var 1) .nil))) .nil)))) .nil))) .nil))) (.seq (.fst (.var 0) "shown" (.lst true (.cons (.bi .tuple (.cons (.call i_items_of (.cons (.idx (.idx (.fld "states" (.var 0)) (.cint 0)) (.cint 1)) (.cons (.var 1) .nil))) .nil)) .nil))) .skip))))), false⟩
def xnames : List Str := [("InvalidNumber" : Str), ("InvalidWord" : Str), ("InvalidPages" : Str), ("InvalidJob" : Str)]
def eks : List (List D) := xnames.map fun x => [D.str x, D.bl true]
theorem ek_InvalidNumber : eks[x_InvalidNumber]? = some [.str "InvalidNumber", .bl true] := rfl
theorem ek_InvalidWord : eks[x_InvalidWord]? = some [.str "InvalidWord", .bl true] := rfl
theorem ek_InvalidPages : eks[x_InvalidPages]? = some [.str "InvalidPages", .bl true] := rfl
theorem ek_InvalidJob : eks[x_InvalidJob]? = some [.str "InvalidJob", .bl true] := rfl
def ents : List Ent := [.fn F_law [],
  .fn F_page_at [],
  .fn F_row [],
  .fn F_l_bags [],
  .fn F_l_take [],
  .fn F_place_of [],
  .fn F_l_back [],
  .fn F_length [],
  .fn F_l_far_draw [],
  .mth 0 F_m_len,
  .mth 1 F_m_words,
  .mth 1 F_m_row,
  .mthv F_m_apply 1,
  .mth 2 F_m_after,
  .gen F_walk,
  .fn F_l_after [],
  .fn F_l_job [],
  .fn F_l_words [],
  .fn F_item_of [],
  .fn F_is_integer [],
  .fn F_span_of [],
  .fn F_need_pages [],
  .fn F_need_pages [(.int 1000000000000000)],
  .fn F_need_job [],
  .fn F_items_of [],
  .con (.int 300),
  .fn F_l_bag [],
  .fn F_index_of [],
  .fn F_after_word [],
  .fn F_is_word [],
  .ini true F_m_init [],
  .fn F_rounded [],
  .fn F_is_job [],
  .fn F_l_draws [],
  .fn F_l_cell_at [],
  .con (.tup [(.str "cut"), (.str "evens"), (.str "half"), (.str "odds"), (.str "rest"), (.str "skip"), (.str "turn")]),
  .fn F_is_multiple [],
  .con (.tup [(.int 1), (.int 2), (.int 4), (.int 8)])]
def GG : Nat → Option Ent := (ents[·]?)
theorem Gi_law : GG i_law = some (.fn F_law []) := rfl
theorem Gi_page_at : GG i_page_at = some (.fn F_page_at []) := rfl
theorem Gi_row : GG i_row = some (.fn F_row []) := rfl
theorem Gi_l_bags : GG i_l_bags = some (.fn F_l_bags []) := rfl
theorem Gi_l_take : GG i_l_take = some (.fn F_l_take []) := rfl
theorem Gi_place_of : GG i_place_of = some (.fn F_place_of []) := rfl
theorem Gi_l_back : GG i_l_back = some (.fn F_l_back []) := rfl
theorem Gi_length : GG i_length = some (.fn F_length []) := rfl
theorem Gi_l_far_draw : GG i_l_far_draw = some (.fn F_l_far_draw []) := rfl
theorem Gi_m_len : GG i_m_len = some (.mth 0 F_m_len) := rfl
theorem Gi_m_words : GG i_m_words = some (.mth 1 F_m_words) := rfl
theorem Gi_m_row : GG i_m_row = some (.mth 1 F_m_row) := rfl
theorem Gi_m_apply : GG i_m_apply = some (.mthv F_m_apply 1) := rfl
theorem Gi_m_after : GG i_m_after = some (.mth 2 F_m_after) := rfl
theorem Gi_walk : GG i_walk = some (.gen F_walk) := rfl
theorem Gi_l_after : GG i_l_after = some (.fn F_l_after []) := rfl
theorem Gi_l_job : GG i_l_job = some (.fn F_l_job []) := rfl
theorem Gi_l_words : GG i_l_words = some (.fn F_l_words []) := rfl
theorem Gi_item_of : GG i_item_of = some (.fn F_item_of []) := rfl
theorem Gi_is_integer : GG i_is_integer = some (.fn F_is_integer []) := rfl
theorem Gi_span_of : GG i_span_of = some (.fn F_span_of []) := rfl
theorem Gi_need_pages : GG i_need_pages = some (.fn F_need_pages []) := rfl
theorem Gi_need_pages_1 : GG i_need_pages_1 = some (.fn F_need_pages [(.int 1000000000000000)]) := rfl
theorem Gi_need_job : GG i_need_job = some (.fn F_need_job []) := rfl
theorem Gi_items_of : GG i_items_of = some (.fn F_items_of []) := rfl
theorem Gi_SHORT : GG i_SHORT = some (.con (.int 300)) := rfl
theorem Gi_l_bag : GG i_l_bag = some (.fn F_l_bag []) := rfl
theorem Gi_index_of : GG i_index_of = some (.fn F_index_of []) := rfl
theorem Gi_after_word : GG i_after_word = some (.fn F_after_word []) := rfl
theorem Gi_is_word : GG i_is_word = some (.fn F_is_word []) := rfl
theorem Gi_m_init_2 : GG i_m_init_2 = some (.ini true F_m_init []) := rfl
theorem Gi_rounded : GG i_rounded = some (.fn F_rounded []) := rfl
theorem Gi_is_job : GG i_is_job = some (.fn F_is_job []) := rfl
theorem Gi_l_draws : GG i_l_draws = some (.fn F_l_draws []) := rfl
theorem Gi_l_cell_at : GG i_l_cell_at = some (.fn F_l_cell_at []) := rfl
theorem Gi_WORDS : GG i_WORDS = some (.con (.tup [(.str "cut"), (.str "evens"), (.str "half"), (.str "odds"), (.str "rest"), (.str "skip"), (.str "turn")])) := rfl
theorem Gi_is_multiple : GG i_is_multiple = some (.fn F_is_multiple []) := rfl
theorem Gi_MULTIPLES : GG i_MULTIPLES = some (.con (.tup [(.int 1), (.int 2), (.int 4), (.int 8)])) := rfl
def names : List Str := [("law" : Str), ("page_at" : Str), ("row" : Str), ("_law_bags" : Str), ("_law_take" : Str), ("place_of" : Str), ("_law_back" : Str), ("length" : Str), ("_law_far_draw" : Str), ("__len__" : Str), ("words" : Str), ("row" : Str), ("apply" : Str), ("after" : Str), ("walk" : Str), ("_law_after" : Str), ("_law_job" : Str), ("_law_words" : Str), ("item_of" : Str), ("is_integer" : Str), ("span_of" : Str), ("need_pages" : Str), ("need_pages" : Str), ("need_job" : Str), ("items_of" : Str), ("SHORT" : Str), ("_law_bag" : Str), ("index_of" : Str), ("after_word" : Str), ("is_word" : Str), ("__init__" : Str), ("rounded" : Str), ("is_job" : Str), ("_law_draws" : Str), ("_law_cell_at" : Str), ("WORDS" : Str), ("is_multiple" : Str), ("MULTIPLES" : Str)]
def nmL (i : Nat) : Str := names.getD i ("" : Str)
def txX : Tx := ⟨fun k => decide (k < 4), fun k => xnames.getD k ("" : Str)⟩
end EV

/-! what an evaluation ends with: rules for proofs about the evaluator -/
namespace EV
open PySem PySem.Spec PyProof.Rows L2
theorem nr {α : Sort u} {a b : α} (h : a = b) : a = b := h
def WPE {α : Type} (o : Option (Out α)) (Q : α → Sto → Prop) : Prop := ∃ a s, o = some (.ok a s) ∧ Q a s
def WPS (o : Option SO) (N : Env → Sto → Prop) (R : D → Sto → Prop) : Prop :=
  match o with
  | some (.nx ρ s) => N ρ s
  | some (.ret d s) => R d s
  | _ => False
section
variable {α β : Type} {s s1 : Sto} {ρ ρ1 : Env} {CT : CTb} {L : Nat} {N : Env → Sto → Prop} {R : D → Sto → Prop}
theorem WPE.mk {o : Option (Out α)} {Q : α → Sto → Prop} {a : α} (e : o = some (.ok a s)) (h : Q a s) : WPE o Q := ⟨a, s, e, h⟩
theorem WPE.mono {o : Option (Out α)} {Q Q' : α → Sto → Prop} (h : WPE o Q) (f : ∀ a s, Q a s → Q' a s) : WPE o Q' := by
  obtain ⟨a, s, e, q⟩ := h
  exact ⟨a, s, e, f a s q⟩
theorem WPE.eq {o : Option (Out α)} {a : α} (h : WPE o fun b s1 => b = a ∧ s1 = s) : o = some (.ok a s) := by
  obtain ⟨b, s2, e, rfl, rfl⟩ := h
  exact e
theorem WPE.of_eq {o : Option (Out α)} {a : α} (h : o = some (.ok a s)) : WPE o fun b s1 => b = a ∧ s1 = s := ⟨a, s, h, rfl, rfl⟩
theorem WPE.ok {a : α} {Q : α → Sto → Prop} (h : Q a s) : WPE (some (.ok a s)) Q := ⟨a, s, rfl, h⟩
theorem WPE.bnd {o : Option (Out α)} {f : α → Sto → Option (Out β)} {Q : β → Sto → Prop} (h : WPE o fun a s => WPE (f a s) Q) : WPE (bnd o f) Q := by
  obtain ⟨a, s, e, q⟩ := h
  rw [e]
  exact q
theorem WPS.sbd {o : Option (Out α)} {f : α → Sto → Option SO} (h : WPE o fun a s => WPS (f a s) N R) : WPS (sbd ρ o f) N R := by
  obtain ⟨a, s, e, q⟩ := h
  rw [e]
  exact q
theorem WPS.mono {o : Option SO} {N' : Env → Sto → Prop} {R' : D → Sto → Prop} (h : WPS o N R) (f : ∀ ρ s, N ρ s → N' ρ s) (g : ∀ d s, R d s → R' d s) : WPS o N' R' := by
  match o, h with
  | some (.nx ρ s), h => exact f _ _ h
  | some (.ret d s), h => exact g _ _ h
/-- a statement is done, the next one comes -/
theorem wps_seq {a b : S} (h : WPS (ex CT L a ρ s) (fun ρ1 s1 => WPS (ex CT L b ρ1 s1) N R) R) : WPS (ex CT L (.seq a b) ρ s) N R := by
  rw [ex]
  match e : ex CT L a ρ s with
  | some (.nx ρ1 s1) =>
    rw [e] at h
    exact h
  | some (.ret d s1) =>
    rw [e] at h
    exact h
  | some (.exc k ρ s1) =>
    rw [e] at h
    exact h.elim
  | none =>
    rw [e] at h
    exact h.elim
/-- .. whose end is known -/
theorem wps_mid {a b : S} (ρ' : Env) (s' : Sto) (h : WPS (ex CT L a ρ s) (fun ρ1 s1 => ρ1 = ρ' ∧ s1 = s') R) (q : WPS (ex CT L b ρ' s') N R) : WPS (ex CT L (.seq a b) ρ s) N R :=
  wps_seq (h.mono (fun ρ1 s1 ⟨e1, e2⟩ => by subst e1 e2; exact q) fun _ _ h => h)
/-- .. of which something is known -/
theorem wps_cut {a b : S} (M : Env → Sto → Prop) (h : WPS (ex CT L a ρ s) M R) (q : ∀ ρ1 s1, M ρ1 s1 → WPS (ex CT L b ρ1 s1) N R) : WPS (ex CT L (.seq a b) ρ s) N R :=
  wps_seq (h.mono q fun _ _ h => h)
theorem wps_skip (h : N ρ s) : WPS (ex CT L .skip ρ s) N R := h
theorem wps_set {i : Nat} {e : E} (h : WPE (ev CT e ρ s) fun x s1 => N (ρ.set i (some x)) s1) : WPS (ex CT L (.set i e) ρ s) N R := by
  rw [ex]
  exact WPS.sbd h
theorem wps_ret {e : E} (h : WPE (ev CT e ρ s) R) : WPS (ex CT L (.ret e) ρ s) N R := by
  rw [ex]
  exact WPS.sbd h
theorem wps_expr {e : E} (h : WPE (ev CT e ρ s) fun _ s1 => N ρ s1) : WPS (ex CT L (.expr e) ρ s) N R := by
  rw [ex]
  exact WPS.sbd h
theorem wps_if {c : E} {t f : S} {b : Bool} (h : WPE (ev CT c ρ s) fun x s1 => x = .bl b ∧ s1 = s) (ht : b = true → WPS (ex CT L t ρ s) N R) (hf : b = false → WPS (ex CT L f ρ s) N R) : WPS (ex CT L (.ifs c t f) ρ s) N R := by
  rw [ex]
  refine WPS.sbd (h.mono fun x s1 ⟨e1, e2⟩ => ?_)
  subst e1 e2
  cases b with
  | true => exact ht rfl
  | false => exact hf rfl
/-- .. whose test may change the store -/
theorem wps_ifs {c : E} {t f : S} (h : WPE (ev CT c ρ s) fun x s1 => ∃ b, x = .bl b ∧ (b = true → WPS (ex CT L t ρ s1) N R) ∧ (b = false → WPS (ex CT L f ρ s1) N R)) : WPS (ex CT L (.ifs c t f) ρ s) N R := by
  rw [ex]
  refine WPS.sbd (h.mono fun x s1 ⟨b, e1, ht, hf⟩ => ?_)
  subst e1
  cases b with
  | true => exact ht rfl
  | false => exact hf rfl
theorem forL_wp {f : D → Env → Sto → Option SO} (I : Nat → Env → Sto → Prop) : ∀ (xs : List D) (k : Nat) (ρ : Env) (s : Sto), I k ρ s → (∀ i x ρ s, xs[i]? = some x → I (k + i) ρ s → WPS (f x ρ s) (I (k + i + 1)) R) → WPS (forL f xs ρ s) (I (k + xs.length)) R
  | [], k, ρ, s, h, _ => h
  | x :: xs, k, ρ, s, h, q => by
    have h1 := q 0 x ρ s rfl h
    unfold forL
    match e : f x ρ s with
    | some (.nx ρ1 s1) =>
      rw [e] at h1
      have := forL_wp I xs (k + 1) ρ1 s1 h1 fun i y ρ s hi hI => by
        have := q (i + 1) y ρ s hi (by rw [show k + (i + 1) = k + 1 + i by omega]; exact hI)
        rw [show k + 1 + i + 1 = k + (i + 1) + 1 by omega]
        exact this
      rw [show k + (x :: xs).length = k + 1 + xs.length by simp; omega]
      exact this
    | some (.ret d s1) =>
      rw [e] at h1
      exact h1
    | some (.exc k ρ s1) =>
      rw [e] at h1
      exact h1.elim
    | none =>
      rw [e] at h1
      exact h1.elim
theorem wps_for {tg it : E} {b : S} (xs : List D) (I : Nat → Env → Sto → Prop) (h : WPE (evi CT it ρ s) fun ys s1 => ys = xs ∧ I 0 ρ s1) (q : ∀ i x ρ s, xs[i]? = some x → I i ρ s → ∃ ρ2, bindT tg x ρ = some ρ2 ∧ WPS (ex CT L b ρ2 s) (I (i + 1)) R)
    (fin : ∀ ρ s, I xs.length ρ s → N ρ s) : WPS (ex CT L (.for_ tg it b) ρ s) N R := by
  rw [ex]
  refine WPS.sbd (h.mono fun ys s1 ⟨e, h0⟩ => ?_)
  subst e
  have := forL_wp (R := R) (f := fun x ρ1 s2 => match bindT tg x ρ1 with
    | some ρ2 => ex CT L b ρ2 s2
    | none => none) I ys 0 ρ s1 h0 fun i x ρ s hi hI => by
      rw [Nat.zero_add] at hI ⊢
      obtain ⟨ρ2, e, w⟩ := q i x ρ s hi hI
      rw [e]
      exact w
  rw [Nat.zero_add] at this
  exact this.mono fin fun _ _ h => h
/-- a loop over a list that is walked by its rest -/
theorem wps_forR {tg it : E} {b : S} (I : List D → Env → Sto → Prop) (h : WPE (evi CT it ρ s) fun xs s1 => I xs ρ s1) (q : ∀ x xs ρ s, I (x :: xs) ρ s → ∃ ρ2, bindT tg x ρ = some ρ2 ∧ WPS (ex CT L b ρ2 s) (I xs) R)
    (fin : ∀ ρ s, I [] ρ s → N ρ s) : WPS (ex CT L (.for_ tg it b) ρ s) N R := by
  rw [ex]
  refine WPS.sbd (h.mono fun ys s1 h0 => ?_)
  clear h
  show WPS (forL _ ys ρ s1) N R
  revert ρ s1
  induction ys with
  | nil =>
    intro ρ s1 h0
    exact fin _ _ h0
  | cons x xs ih =>
    intro ρ s1 h0
    obtain ⟨ρ2, e, w⟩ := q x xs ρ s1 h0
    unfold forL
    rw [e]
    dsimp only
    match e2 : ex CT L b ρ2 s1 with
    | some (.nx ρ3 s3) =>
      rw [e2] at w
      exact ih s3 w
    | some (.ret d s3) =>
      rw [e2] at w
      exact w
    | some (.exc k ρ s3) =>
      rw [e2] at w
      exact w.elim
    | none =>
      rw [e2] at w
      exact w.elim
theorem wps_whl {c : E} {b : S} (I : Nat → Env → Sto → Prop) (k n : Nat) (h0 : I k ρ s) (hk : k < n)
    (q : ∀ k ρ s, I k ρ s → WPE (ev CT c ρ s) fun x s1 => (x = .bl false ∧ N ρ s1) ∨ (x = .bl true ∧ ∃ k', k = k' + 1 ∧ WPS (ex CT L b ρ s1) (I k') R)) : WPS (ex CT L (.whl n c b) ρ s) N R := by
  rw [ex]
  induction n generalizing k ρ s with
  | zero => omega
  | succ n ih =>
    unfold whlF
    refine WPS.sbd ((q k ρ s h0).mono fun x s1 h => ?_)
    rcases h with ⟨rfl, h⟩ | ⟨rfl, k', rfl, h⟩
    · exact h
    · dsimp only
      match e2 : ex CT L b ρ s1 with
      | some (.nx ρ3 s3) =>
        rw [e2] at h
        exact ih k' h (by omega)
      | some (.ret d s3) =>
        rw [e2] at h
        exact h
      | some (.exc k ρ s3) =>
        rw [e2] at h
        exact h.elim
      | none =>
        rw [e2] at h
        exact h.elim
theorem wps_unp {tg e : E} (h : WPE (ev CT e ρ s) fun x s1 => ∃ ρ1, bindT tg x ρ = some ρ1 ∧ N ρ1 s1) : WPS (ex CT L (.unp tg e) ρ s) N R := by
  rw [ex]
  refine WPS.sbd (h.mono fun x s1 ⟨ρ1, e1, q⟩ => ?_)
  rw [e1]
  exact q
theorem wps_par {is : List Nat} {es : E} (h : WPE (evs CT es ρ s) fun xs s1 => ∃ ρ1, setMany is xs ρ = some ρ1 ∧ N ρ1 s1) : WPS (ex CT L (.par is es) ρ s) N R := by
  rw [ex]
  refine WPS.sbd (h.mono fun x s1 ⟨ρ1, e1, q⟩ => ?_)
  rw [e1]
  exact q
theorem wps_app {a e : E} (h : WPE (ev CT a ρ s) fun x s1 => isLst s1 x = true ∧ WPE (ev CT e ρ s1) fun y s2 => ∃ s3, appD L x y s2 = some s3 ∧ N ρ s3) : WPS (ex CT L (.app a e) ρ s) N R := by
  rw [ex]
  refine WPS.sbd (h.mono fun x s1 ⟨e0, q⟩ => ?_)
  rw [if_pos e0]
  refine WPS.sbd (q.mono fun y s2 ⟨s3, e1, q⟩ => ?_)
  rw [e1]
  exact q
theorem wps_sto {a i e : E} (h : WPE (ev CT e ρ s) fun y s1 => WPE (ev CT a ρ s1) fun x s2 => WPE (ev CT i ρ s2) fun k s3 => ∃ s4, stoD L x k y s3 = some s4 ∧ N ρ s4) : WPS (ex CT L (.sto a i e) ρ s) N R := by
  rw [ex]
  refine WPS.sbd (h.mono fun y s1 q => ?_)
  refine WPS.sbd (q.mono fun x s2 q => ?_)
  refine WPS.sbd (q.mono fun k s3 ⟨s4, e1, q⟩ => ?_)
  rw [e1]
  exact q
theorem compL_wp {f : D → Sto → Option (Out (Option D))} (I : Nat → List D → Sto → Prop) : ∀ (xs : List D) (k : Nat) (acc : List D) (s : Sto), I k acc s →
    (∀ i x acc s, xs[i]? = some x → I (k + i) acc s → WPE (f x s) fun y s1 => I (k + i + 1) (match y with | some y => acc ++ [y] | none => acc) s1) → WPE (compL f xs s) fun zs s1 => I (k + xs.length) (acc ++ zs) s1
  | [], k, acc, s, h, _ => ⟨[], s, rfl, by show I (k + 0) (acc ++ []) s; rw [List.append_nil]; exact h⟩
  | x :: xs, k, acc, s, h, q => by
    obtain ⟨y, s1, e1, h1⟩ := q 0 x acc s rfl h
    obtain ⟨zs, s2, e2, h2⟩ := compL_wp I xs (k + 1) _ s1 h1 fun i y acc s hi hI => by
      have := q (i + 1) y acc s hi (by rw [show k + (i + 1) = k + 1 + i by omega]; exact hI)
      rw [show k + 1 + i + 1 = k + (i + 1) + 1 by omega]
      exact this
    unfold compL
    rw [e1]
    dsimp only
    rw [e2]
    refine ⟨_, s2, rfl, ?_⟩
    rw [show k + (x :: xs).length = k + 1 + xs.length by simp; omega]
    cases y with
    | none => exact h2
    | some y =>
      rw [List.append_assoc] at h2
      exact h2
theorem wpe_comp {own : List Nat} {tg elt it cond : E} {Q : D → Sto → Prop} (xs : List D) (I : Nat → List D → Sto → Prop) (h : WPE (evi CT it ρ s) fun zs s1 => zs = xs ∧ I 0 [] s1)
    (step : ∀ i x ys s1, xs[i]? = some x → I i ys s1 → ∃ ρ', bindT tg x (wipeE ρ own) = some ρ' ∧ WPE (ev CT cond ρ' s1) fun c s2 => (c = .bl true ∧ WPE (ev CT elt ρ' s2) fun y s3 => I (i + 1) (ys ++ [y]) s3) ∨ (c = .bl false ∧ I (i + 1) ys s2))
    (fin : ∀ ys s1, I xs.length ys s1 → ys.length ≤ sizeLine ∧ Q (.lst ys) s1) : WPE (ev CT (.comp own tg elt it cond) ρ s) Q := by
  obtain ⟨zs, s1, e, rfl, h0⟩ := h
  have hev : ev CT (.comp own tg elt it cond) ρ s = match evi CT it ρ s with
    | some (.ok xs s1) => match compL (item CT tg elt cond own ρ) xs s1 with
      | some (.ok ys s5) => if ys.length ≤ sizeLine then some (.ok (.lst ys) s5) else none
      | _ => none
    | _ => none := by
    rw [ev]
    rfl
  rw [hev, e]
  obtain ⟨ys, s2, e2, h2⟩ := compL_wp (f := item CT tg elt cond own ρ) I zs 0 [] s1 h0 fun i x acc s hi hI => by
    rw [Nat.zero_add] at hI ⊢
    obtain ⟨ρ', e1, c, s2, e2, hc⟩ := step i x acc s hi hI
    unfold item
    rw [e1]
    dsimp only
    rw [e2]
    rcases hc with ⟨rfl, y, s3, e3, h3⟩ | ⟨rfl, h3⟩
    · dsimp only
      rw [e3]
      exact ⟨some y, s3, rfl, h3⟩
    · exact ⟨none, s2, rfl, h3⟩
  dsimp only
  rw [e2]
  rw [Nat.zero_add, List.nil_append] at h2
  obtain ⟨q1, q2⟩ := fin _ _ h2
  dsimp only
  rw [if_pos q1]
  exact ⟨_, _, rfl, q2⟩
def mkTup (xs : List D) (s : Sto) : Option (Out D) := if xs.length ≤ sizeLine then some (.ok (.tup xs) s) else none
theorem mkTup_ok {xs : List D} (h : xs.length ≤ 1000) : mkTup xs s = some (.ok (.tup xs) s) := if_pos (Nat.le_trans h (by decide))
section
variable {i : Nat} {z : Int} {x : Str} {q m : Bool} {o : BO} {co cp cq : CO} {a b c d es e lo hi : E} {ts : List Ty} {bb : BI}
theorem ev_var : ev CT (.var i) ρ s = match ρ[i]? with
    | some (some d) => some (.ok d s)
    | _ => none := by rw [ev] <;> rfl
theorem ev_cint : ev CT (.cint z) ρ s = some (.ok (.int z) s) := by rw [ev] <;> rfl
theorem ev_cstr : ev CT (.cstr x) ρ s = some (.ok (.str x) s) := by rw [ev] <;> rfl
theorem ev_cbl : ev CT (.cbl q) ρ s = some (.ok (.bl q) s) := by rw [ev] <;> rfl
theorem ev_cnon : ev CT .cnon ρ s = some (.ok .non s) := by rw [ev] <;> rfl
theorem ev_g : ev CT (.g i) ρ s = CT i [] s := by rw [ev] <;> rfl
theorem ev_bin : ev CT (.bin o a b) ρ s = bnd (ev CT a ρ s) fun x s1 => bnd (ev CT b ρ s1) fun y s2 => pur s2 (binD o s2 x y) := by rw [ev] <;> rfl
theorem ev_neg : ev CT (.neg a) ρ s = bnd (ev CT a ρ s) fun x s1 => match x with
    | .int i => some (.ok (.int (-i)) s1)
    | _ => none := by rw [ev] <;> rfl
theorem ev_not : ev CT (.not a) ρ s = bnd (ev CT a ρ s) fun x s1 => match x with
    | .bl k => some (.ok (.bl (!k)) s1)
    | _ => none := by rw [ev] <;> rfl
theorem ev_cmp : ev CT (.cmp co a b) ρ s = bnd (ev CT a ρ s) fun x s1 => bnd (ev CT b ρ s1) fun y s2 => pur s2 ((cmpD co s2 x y).map .bl) := by rw [ev] <;> rfl
theorem ev_chn3 : ev CT (.chn3 co cp cq a b c d) ρ s = bnd (ev CT a ρ s) fun x s1 => bnd (ev CT b ρ s1) fun y s2 => match cmpD co s2 x y with
    | some true => bnd (ev CT c ρ s2) fun z s3 => match cmpD cp s3 y z with
      | some true => bnd (ev CT d ρ s3) fun w s4 => pur s4 ((cmpD cq s4 z w).map .bl)
      | some false => some (.ok (.bl false) s3)
      | none => none
    | some false => some (.ok (.bl false) s2)
    | none => none := by rw [ev] <;> rfl
theorem ev_revT : ev CT (.revT a) ρ s = bnd (ev CT a ρ s) fun x s1 => pur s1 (revTD x) := by rw [ev] <;> rfl
theorem ev_stp : ev CT (.stp a b) ρ s = bnd (ev CT a ρ s) fun x s1 => bnd (ev CT b ρ s1) fun y s2 => pur s2 (stpD s2 x y) := by rw [ev] <;> rfl
theorem ev_lix : ev CT (.lix a b) ρ s = bnd (ev CT a ρ s) fun x s1 => if isSq s1 x = true then bnd (ev CT b ρ s1) fun y s2 => pur s2 (lixD s2 x y) else none := by rw [ev] <;> rfl
theorem ev_err : ev CT (.err i es) ρ s = bnd (evs CT es ρ s) fun xs s1 => CT i xs s1 := by rw [ev] <;> rfl
theorem ev_wlk {own : List Nat} {f : Nat} : ev CT (.wlk own f es) ρ s = bnd (evs CT es ρ s) fun xs s1 => lstO (CT f xs s1) := by rw [ev] <;> rfl
theorem ev_lgn {f : Nat} : ev CT (.lgn f es) ρ s = bnd (evs CT es ρ s) fun xs s1 => lstO (CT f xs s1) := by rw [ev] <;> rfl
theorem lstO_ok {ys : List D} : lstO (some (.ok (.lst ys) s)) = some (.ok (.lst ys) s) := nr rfl
theorem ev_srt : ev CT (.srt a) ρ s = bnd (ev CT a ρ s) fun x s1 => pur s1 (srtD s1 x) := by rw [ev] <;> rfl
theorem ev_isl : ev CT (.isl a) ρ s = bnd (ev CT a ρ s) fun x s1 => if isSq s1 x = true then some (.ok (.bl true) s1) else none := by rw [ev] <;> rfl
theorem ev_gf : ev CT (.gf i x) ρ s = some (.ok (.gf i x) s) := by rw [ev] <;> rfl
theorem ev_cav {k : Nat} : ev CT (.cav k es) ρ s = match ρ[k]? with
    | some (some (.gf i x)) => if x = "Pile" then none else bnd (evs CT es ρ s) fun xs s1 => CT i xs s1
    | _ => none := by rw [ev] <;> rfl
theorem ev_cpm {own : List Nat} {tg it : E} : ev CT (.cpm own tg e it c) ρ s = match evi CT it ρ s with
  | some (.ok xs s1) => match compL (item CT tg e c own ρ) xs s1 with
    | some (.ok ys s5) => fresh true ys s5
    | _ => none
  | _ => none := by
    rw [ev]
    rfl
theorem ev_dst : ev CT (.dst a) ρ s = bnd (ev CT a ρ s) fun x s1 => pur s1 (dstD s1 x) := by rw [ev] <;> rfl
theorem ev_chn : ev CT (.chn co cp a b c) ρ s = bnd (ev CT a ρ s) fun x s1 => bnd (ev CT b ρ s1) fun y s2 => match cmpD co s2 x y with
    | some true => bnd (ev CT c ρ s2) fun z s3 => pur s3 ((cmpD cp s3 y z).map .bl)
    | some false => some (.ok (.bl false) s2)
    | none => none := by rw [ev] <;> rfl
theorem ev_and : ev CT (.and a b) ρ s = bnd (ev CT a ρ s) fun x s1 => match x with
    | .bl true => ev CT b ρ s1
    | .bl false => some (.ok (.bl false) s1)
    | _ => none := by rw [ev] <;> rfl
theorem ev_or : ev CT (.or a b) ρ s = bnd (ev CT a ρ s) fun x s1 => match x with
    | .bl true => some (.ok (.bl true) s1)
    | .bl false => ev CT b ρ s1
    | _ => none := by rw [ev] <;> rfl
theorem ev_ite : ev CT (.ite c a b) ρ s = bnd (ev CT c ρ s) fun x s1 => match x with
    | .bl true => ev CT a ρ s1
    | .bl false => ev CT b ρ s1
    | _ => none := by rw [ev] <;> rfl
theorem ev_tup : ev CT (.tup es) ρ s = bnd (evs CT es ρ s) mkTup := by
  rw [ev]
  rfl
theorem ev_lst : ev CT (.lst m es) ρ s = bnd (evs CT es ρ s) fun xs s1 => fresh m xs s1 := by rw [ev] <;> rfl
theorem ev_call : ev CT (.call i es) ρ s = bnd (evs CT es ρ s) fun xs s1 => CT i xs s1 := by rw [ev] <;> rfl
theorem ev_bi : ev CT (.bi bb es) ρ s = bnd (evs CT es ρ s) fun xs s1 => pur s1 (biD bb s1 xs) := by rw [ev] <;> rfl
theorem ev_isi : ev CT (.isi a ts) ρ s = bnd (ev CT a ρ s) fun x s1 => pur s1 ((isTys ts x).map .bl) := by rw [ev] <;> rfl
theorem ev_idx : ev CT (.idx a b) ρ s = bnd (ev CT a ρ s) fun x s1 => bnd (ev CT b ρ s1) fun y s2 => pur s2 (idxD s2 x y) := by rw [ev] <;> rfl
theorem ev_slc : ev CT (.slc a lo hi) ρ s = bnd (ev CT a ρ s) fun x s1 => bnd (evo CT lo ρ s1) fun l s2 => bnd (evo CT hi ρ s2) fun h s3 => pur s3 (slcD s3 x l h) := by rw [ev] <;> rfl
theorem ev_rev : ev CT (.rev a) ρ s = bnd (ev CT a ρ s) fun x s1 => pur s1 (revD s1 x) := by rw [ev] <;> rfl
theorem ev_dnew : ev CT .dnew ρ s = some (.ok (.loc s.length) (s ++ [.dct []])) := by rw [ev]
theorem ev_lrng1 : ev CT (.lrng1 a) ρ s = bnd (ev CT a ρ s) fun x s1 => match x with
    | .int j => if RgOk 0 j then some (.ok (.lst (rngL 0 j)) s1) else none
    | _ => none := by rw [ev] <;> rfl
theorem ev_cpy : ev CT (.cpy a) ρ s = bnd (ev CT a ρ s) fun x s1 => match seqOf s1 x with
    | some xs => some (.ok (.loc s1.length) (s1 ++ [.lst xs]))
    | none => none := by rw [ev] <;> rfl
theorem ev_lrng : ev CT (.lrng a b) ρ s = bnd (ev CT a ρ s) fun x s1 => bnd (ev CT b ρ s1) fun y s2 => match x, y with
    | .int i, .int j => if RgOk i j then some (.ok (.lst (rngL i j)) s2) else none
    | _, _ => none := by rw [ev] <;> rfl
theorem ev_comp {own : List Nat} {tg it : E} : ev CT (.comp own tg e it c) ρ s = match evi CT it ρ s with
    | some (.ok xs s1) => match compL (item CT tg e c own ρ) xs s1 with
      | some (.ok ys s5) => if ys.length ≤ sizeLine then some (.ok (.lst ys) s5) else none
      | _ => none
    | _ => none := by
    rw [ev]
    rfl
end
theorem l_get0 {x : α} {xs : List α} : (x :: xs)[0]? = some x := nr rfl
theorem l_gets {x : α} {xs : List α} {i : Nat} : (x :: xs)[i + 1]? = xs[i]? := nr rfl
theorem l_set0 {x y : α} {xs : List α} : (x :: xs).set 0 y = y :: xs := nr rfl
theorem l_sets {x y : α} {xs : List α} {i : Nat} : (x :: xs).set (i + 1) y = x :: xs.set i y := nr rfl
theorem l_len0 : ([] : List α).length = 0 := nr rfl
theorem l_lens {x : α} {xs : List α} : (x :: xs).length = xs.length + 1 := nr rfl
theorem o_map {f : α → β} {x : α} : Option.map f (some x) = some (f x) := nr rfl
theorem l_map0 {f : α → β} : List.map f [] = [] := nr rfl
theorem l_maps {f : α → β} {x : α} {xs : List α} : List.map f (x :: xs) = f x :: List.map f xs := nr rfl
theorem l_app0 {xs : List α} : [] ++ xs = xs := nr rfl
theorem l_apps {x : α} {xs ys : List α} : (x :: xs) ++ ys = x :: (xs ++ ys) := nr rfl
theorem le_size {n : Nat} (h : n ≤ 1000) : (n ≤ sizeLine) = True := eq_true (Nat.le_trans h (by decide))
theorem fresh_f' {xs : List D} (h : xs.length ≤ 1000) : fresh false xs s = some (.ok (.lst xs) s) := by
  unfold fresh
  rw [if_pos (Nat.le_trans h (by decide))]
  rfl
theorem fresh_t' {xs : List D} (h : xs.length ≤ 1000) : fresh true xs s = some (.ok (.loc s.length) (s ++ [.lst xs])) := by
  unfold fresh
  rw [if_pos (Nat.le_trans h (by decide))]
  rfl
/-- a def's end -/
theorem cal_wp {G : Nat → Option Ent} {n i : Nat} {F : Fn} {ds dds : List D} {Q : D → Sto → Prop} (h : G i = some (.fn F dds)) (hl : (ds ++ dds).length = F.np)
    (hw : WPS (ex (cal G n) s.length F.body ((ds ++ dds).map some ++ List.replicate (F.ns - F.np) none) s) (fun _ s1 => WPE (fin F.fz s.length s1 .non) Q) (fun r s1 => WPE (fin F.fz s.length s1 r) Q)) : WPE (cal G (n + 1) i ds s) Q := by
  simp only [cal, h, run, hl, if_true]
  match e : ex (cal G n) s.length F.body ((ds ++ dds).map some ++ List.replicate (F.ns - F.np) none) s with
  | some (.nx ρ1 s1) =>
    rw [e] at hw
    exact hw
  | some (.ret d s1) =>
    rw [e] at hw
    exact hw
  | some (.exc k ρ s1) =>
    rw [e] at hw
    exact hw.elim
  | none =>
    rw [e] at hw
    exact hw.elim
/-- .. of a def f(a, .., *r) -/
theorem cal_wpV {G : Nat → Option Ent} {n i kf : Nat} {F : Fn} {ds : List D} {Q : D → Sto → Prop} (h : G i = some (.fnv F kf)) (hk : kf ≤ ds.length) (hz : (ds.drop kf).length ≤ 1000) (hl : (ds.take kf ++ [D.tup (ds.drop kf)]).length = F.np)
    (hw : WPS (ex (cal G n) s.length F.body ((ds.take kf ++ [D.tup (ds.drop kf)]).map some ++ List.replicate (F.ns - F.np) none) s) (fun _ s1 => WPE (fin F.fz s.length s1 .non) Q) (fun r s1 => WPE (fin F.fz s.length s1 r) Q)) : WPE (cal G (n + 1) i ds s) Q := by
  rw [cal_fnv h, if_pos ⟨hk, Nat.le_trans hz (by decide)⟩]
  unfold run
  rw [if_pos hl]
  match e : ex (cal G n) s.length F.body ((ds.take kf ++ [D.tup (ds.drop kf)]).map some ++ List.replicate (F.ns - F.np) none) s with
  | some (.nx ρ1 s1) =>
    rw [e] at hw
    exact hw
  | some (.ret d s1) =>
    rw [e] at hw
    exact hw
  | some (.exc k ρ s1) =>
    rw [e] at hw
    exact hw.elim
  | none =>
    rw [e] at hw
    exact hw.elim
theorem fin_keep {d : D} (h : noloc d = true) (hs : s1.take L = s) : fin true L s1 d = some (.ok d s) := by
  unfold fin freeze
  cases d <;> first | (simp only [if_true, h, hs]; done) | cases h
theorem fin_pure {d : D} (h : noloc d = true) : fin true s.length s d = some (.ok d s) := fin_keep h (List.take_length)
theorem fin_list {xs : List D} {n : Nat} (hn : L ≤ n) (hx : s1[n]? = some (.lst xs)) (h : nolocs xs = true) (hs : s1.take L = s) : fin true L s1 (.loc n) = some (.ok (.lst xs) s) := by
  unfold fin freeze
  simp only [if_true, show ¬ n < L by omega, if_false, hx, h, hs]
/-- a pure def: the value alone -/
theorem cal_pure {G : Nat → Option Ent} {n i : Nat} {F : Fn} {ds dds : List D} {d : D} (h : G i = some (.fn F dds)) (hl : (ds ++ dds).length = F.np) (hz : F.fz = true) (hd : noloc d = true)
    (hw : WPS (ex (cal G n) s.length F.body ((ds ++ dds).map some ++ List.replicate (F.ns - F.np) none) s) (fun _ s1 => d = .non ∧ s1 = s) (fun r s1 => r = d ∧ s1 = s)) : cal G (n + 1) i ds s = some (.ok d s) := by
  refine WPE.eq (cal_wp h hl (hw.mono (fun ρ s1 ⟨e1, e2⟩ => ?_) fun r s1 ⟨e1, e2⟩ => ?_))
  · subst e1 e2
    rw [hz]
    exact .mk (fin_pure hd) ⟨rfl, rfl⟩
  · subst e1 e2
    rw [hz]
    exact .mk (fin_pure hd) ⟨rfl, rfl⟩
theorem cal_pureV {G : Nat → Option Ent} {n i kf : Nat} {F : Fn} {ds : List D} {d : D} (h : G i = some (.fnv F kf)) (hk : kf ≤ ds.length) (hz : (ds.drop kf).length ≤ 1000) (hl : (ds.take kf ++ [D.tup (ds.drop kf)]).length = F.np) (hzz : F.fz = true) (hd : noloc d = true)
    (hw : WPS (ex (cal G n) s.length F.body ((ds.take kf ++ [D.tup (ds.drop kf)]).map some ++ List.replicate (F.ns - F.np) none) s) (fun _ s1 => d = .non ∧ s1 = s) (fun r s1 => r = d ∧ s1 = s)) : cal G (n + 1) i ds s = some (.ok d s) := by
  refine WPE.eq (cal_wpV h hk hz hl (hw.mono (fun ρ s1 ⟨e1, e2⟩ => ?_) fun r s1 ⟨e1, e2⟩ => ?_))
  · subst e1 e2
    rw [hzz]
    exact .mk (fin_pure hd) ⟨rfl, rfl⟩
  · subst e1 e2
    rw [hzz]
    exact .mk (fin_pure hd) ⟨rfl, rfl⟩
theorem bnd_ok {a : α} {f : α → Sto → Option (Out β)} : bnd (some (.ok a s)) f = f a s := nr rfl
theorem sbd_ok {a : α} {f : α → Sto → Option SO} : sbd ρ (some (.ok a s)) f = f a s := nr rfl
theorem pur_some {d : D} : pur s (some d) = some (.ok d s) := nr rfl
theorem wps_nx : WPS (some (.nx ρ s)) N R ↔ N ρ s := Iff.rfl
theorem wps_rt {d : D} : WPS (some (.ret d s)) N R ↔ R d s := Iff.rfl
theorem wpe_ok {a : α} {Q : α → Sto → Prop} : WPE (some (.ok a s)) Q ↔ Q a s := ⟨fun ⟨b, s2, e, q⟩ => by cases e; exact q, fun q => ⟨a, s, rfl, q⟩⟩
/-! ### operations -/
theorem b_add {i j : Int} : binD .add s (.int i) (.int j) = some (.int (i + j)) := nr rfl
theorem b_sub {i j : Int} : binD .sub s (.int i) (.int j) = some (.int (i - j)) := nr rfl
theorem b_mul {i j : Int} (h : CMul i j) : binD .mul s (.int i) (.int j) = some (.int (i * j)) := if_pos h
theorem b_fdiv {i j : Int} (h : CDivN i j) : binD .fdiv s (.int i) (.int j) = some (.int (i.fdiv j)) := if_pos h
theorem b_mod {i j : Int} (h : j ≠ 0) : binD .mod s (.int i) (.int j) = some (.int (i.fmod j)) := if_pos h
theorem b_pow {i j : Int} (h : CPow i j) : binD .pow s (.int i) (.int j) = some (.int (i ^ j.toNat)) := if_pos h
theorem b_addT {xs ys : List D} (h : xs.length + ys.length ≤ sizeLine) : binD .add s (.tup xs) (.tup ys) = some (.tup (xs ++ ys)) := if_pos h
theorem b_addL {xs ys : List D} (h : xs.length + ys.length ≤ sizeLine) : binD .add s (.lst xs) (.lst ys) = some (.lst (xs ++ ys)) := if_pos h
theorem c_lt {i j : Int} : cmpD .lt s (.int i) (.int j) = some (decide (i < j)) := nr rfl
theorem c_le {i j : Int} : cmpD .le s (.int i) (.int j) = some (decide (i ≤ j)) := nr rfl
theorem c_gt {i j : Int} : cmpD .gt s (.int i) (.int j) = some (decide (j < i)) := nr rfl
theorem c_ge {i j : Int} : cmpD .ge s (.int i) (.int j) = some (decide (j ≤ i)) := nr rfl
theorem c_eq {a b : D} : cmpD .eq s a b = eqD s a b := nr rfl
theorem c_ne {a b : D} : cmpD .ne s a b = (eqD s a b).map (!·) := nr rfl
theorem c_in {a b : D} : cmpD .isin s a b = inD s a b := nr rfl
theorem c_nin {a b : D} : cmpD .notin s a b = (inD s a b).map (!·) := nr rfl
theorem c_is {a b : D} : cmpD .is_ s a b = isD a b := nr rfl
theorem c_isnot {a b : D} : cmpD .isnot s a b = (isD a b).map (!·) := nr rfl
theorem atI_nat' {xs : List α} {k : Int} (h0 : 0 ≤ k) (h : k < xs.length) : atI xs k = xs[k.toNat]? := by
  obtain ⟨j, rfl⟩ := Int.eq_ofNat_of_zero_le h0
  have hj : j < xs.length := by omega
  have e : xs[j]? = some xs[j] := List.getElem?_eq_getElem hj
  rw [show ((j : Nat) : Int).toNat = j from rfl, e]
  exact atI_nat e
/-- equality as data -/
theorem eq_int {i j : Int} : eqD s (.int i) (.int j) = some (decide (i = j)) := by
  show some (decide (i = j)) = _
  rfl
end
end EV

/-! equality as data -/
namespace EV
open PySem PySem.Spec PyProof.Rows L2
mutual
/-- no truth values, texts that may be written, not deep -/
def nice : Nat → D → Bool
  | _, .non => true
  | _, .int _ => true
  | _, .str x => PyData.canLay0 (.str x)
  | k + 1, .tup xs => nices k xs
  | k + 1, .lst xs => nices k xs
  | _, _ => false
def nices : Nat → List D → Bool
  | _, [] => true
  | k, x :: xs => nice k x && nices k xs
end
mutual
theorem nice_ok : ∀ (k : Nat) (d : D), nice k d = true → cmpable d = true ∧ (toPy d).canLay0 = true ∧ (toPy d).depth ≤ k + 1
  | k, .non, _ => ⟨rfl, rfl, by simp [toPy, PyData.depth]⟩
  | k, .bl _, h => by simp [nice] at h
  | k, .int _, _ => ⟨rfl, rfl, by simp [toPy, PyData.depth]⟩
  | k, .str x, h => ⟨rfl, by simpa [nice, toPy] using h, by simp [toPy, PyData.depth]⟩
  | 0, .tup _, h => by simp [nice] at h
  | 0, .lst _, h => by simp [nice] at h
  | k + 1, .tup xs, h => by
    obtain ⟨h1, h2, h3⟩ := nices_ok k xs (by simpa [nice] using h)
    refine ⟨by simpa [cmpable] using h1, by simpa [toPy, PyData.canLay0] using h2, ?_⟩
    simp only [toPy, PyData.depth]
    omega
  | k + 1, .lst xs, h => by
    obtain ⟨h1, h2, h3⟩ := nices_ok k xs (by simpa [nice] using h)
    refine ⟨by simpa [cmpable] using h1, by simpa [toPy, PyData.canLay0] using h2, ?_⟩
    simp only [toPy, PyData.depth]
    omega
  | k, .scr _, h => by simp [nice] at h
  | k, .adr _, h => by simp [nice] at h
  | k, .gf _ _, h => by simp [nice] at h
  | k, .loc _, h => by simp [nice] at h
theorem nices_ok : ∀ (k : Nat) (ds : List D), nices k ds = true → cmpables ds = true ∧ PyData.canLayAll0 (toPys ds) = true ∧ PyData.depthAll (toPys ds) ≤ k + 1
  | k, [], _ => ⟨rfl, rfl, by simp [toPys, PyData.depthAll]⟩
  | k, x :: xs, h => by
    have h : nice k x = true ∧ nices k xs = true := by simpa [nices] using h
    obtain ⟨a1, a2, a3⟩ := nice_ok k x h.1
    obtain ⟨b1, b2, b3⟩ := nices_ok k xs h.2
    refine ⟨by simp [cmpables, a1, b1], by simp [toPys, PyData.canLayAll0, a2, b2], ?_⟩
    simp only [toPys, PyData.depthAll]
    omega
end
mutual
theorem nice_eqv : ∀ (k j : Nat) (a b : D), nice k a = true → nice j b = true → (PyData.eqv (toPy a) (toPy b) = true ↔ a = b)
  | k, j, .non, b, ha, hb => by cases b <;> first | (exfalso; simp [nice] at hb; done) | simp [toPy, PyData.eqv]
  | k, j, .bl _, b, ha, hb => by simp [nice] at ha
  | k, j, .int _, b, ha, hb => by cases b <;> first | (exfalso; simp [nice] at hb; done) | simp [toPy, PyData.eqv]
  | k, j, .str x, b, ha, hb => by cases b <;> first | (exfalso; simp [nice] at hb; done) | simp [toPy, PyData.eqv]
  | 0, j, .tup _, b, h, hb => by simp [nice] at h
  | 0, j, .lst _, b, h, hb => by simp [nice] at h
  | k + 1, j, .tup xs, .tup ys, ha, hb => by
    cases j with
    | zero => simp [nice] at hb
    | succ j =>
      have := nices_eqv k j xs ys (by simpa [nice] using ha) (by simpa [nice] using hb)
      simp only [toPy, PyData.eqv, this, D.tup.injEq]
  | k + 1, j, .lst xs, .lst ys, ha, hb => by
    cases j with
    | zero => simp [nice] at hb
    | succ j =>
      have := nices_eqv k j xs ys (by simpa [nice] using ha) (by simpa [nice] using hb)
      simp only [toPy, PyData.eqv, this, D.lst.injEq]
  | k + 1, j, .tup xs, .non, ha, hb => by simp [toPy, PyData.eqv]
  | k + 1, j, .tup xs, .int _, ha, hb => by simp [toPy, PyData.eqv]
  | k + 1, j, .tup xs, .str _, ha, hb => by simp [toPy, PyData.eqv]
  | k + 1, j, .tup xs, .lst _, ha, hb => by simp [toPy, PyData.eqv]
  | k + 1, j, .lst xs, .non, ha, hb => by simp [toPy, PyData.eqv]
  | k + 1, j, .lst xs, .int _, ha, hb => by simp [toPy, PyData.eqv]
  | k + 1, j, .lst xs, .str _, ha, hb => by simp [toPy, PyData.eqv]
  | k + 1, j, .lst xs, .tup _, ha, hb => by simp [toPy, PyData.eqv]
  | k + 1, j, .tup xs, .bl _, ha, hb => by simp [nice] at hb
  | k + 1, j, .tup xs, .scr _, ha, hb => by simp [nice] at hb
  | k + 1, j, .tup xs, .adr _, ha, hb => by simp [nice] at hb
  | k + 1, j, .tup xs, .gf _ _, ha, hb => by simp [nice] at hb
  | k + 1, j, .tup xs, .loc _, ha, hb => by simp [nice] at hb
  | k + 1, j, .lst xs, .bl _, ha, hb => by simp [nice] at hb
  | k + 1, j, .lst xs, .scr _, ha, hb => by simp [nice] at hb
  | k + 1, j, .lst xs, .adr _, ha, hb => by simp [nice] at hb
  | k + 1, j, .lst xs, .gf _ _, ha, hb => by simp [nice] at hb
  | k + 1, j, .lst xs, .loc _, ha, hb => by simp [nice] at hb
  | k, j, .scr _, b, h, hb => by simp [nice] at h
  | k, j, .adr _, b, h, hb => by simp [nice] at h
  | k, j, .gf _ _, b, h, hb => by simp [nice] at h
  | k, j, .loc _, b, h, hb => by simp [nice] at h
theorem nices_eqv : ∀ (k j : Nat) (a b : List D), nices k a = true → nices j b = true → (PyData.eqvAll (toPys a) (toPys b) = true ↔ a = b)
  | k, j, [], [], _, _ => by simp [toPys, PyData.eqvAll]
  | k, j, [], y :: ys, _, _ => by simp [toPys, PyData.eqvAll]
  | k, j, x :: xs, [], _, _ => by simp [toPys, PyData.eqvAll]
  | k, j, x :: xs, y :: ys, ha, hb => by
    have ha : nice k x = true ∧ nices k xs = true := by simpa [nices] using ha
    have hb : nice j y = true ∧ nices j ys = true := by simpa [nices] using hb
    simp only [toPys, PyData.eqvAll, Bool.and_eq_true, nice_eqv k j x y ha.1 hb.1, nices_eqv k j xs ys ha.2 hb.2, List.cons.injEq]
end
theorem nice_deref {k : Nat} {d : D} (h : nice k d = true) (s : Sto) : deref s d = d := by
  cases d with
  | loc n => cases k <;> simp [nice] at h
  | _ => rfl
open Classical in
/-- the equality of such values -/
theorem eq_nice {k j : Nat} {a b : D} {s : Sto} (ha : nice k a = true) (hb : nice j b = true) (hk : k ≤ 60 := by decide) (hj : j ≤ 60 := by decide) : eqD s a b = some (decide (a = b)) := by
  unfold eqD
  rw [nice_deref ha, nice_deref hb]
  obtain ⟨a1, a2, a3⟩ := nice_ok k a ha
  obtain ⟨b1, b2, b3⟩ := nice_ok j b hb
  have h1 : okD a = true := by
    unfold okD SeqAt.shaped
    rw [a1, a2, decide_eq_true (by omega)]
    rfl
  have h2 : okD b = true := by
    unfold okD SeqAt.shaped
    rw [b1, b2, decide_eq_true (by omega)]
    rfl
  rw [h1, h2]
  simp only [Bool.and_self, if_true, Option.some.injEq]
  have := nice_eqv k j a b ha hb
  by_cases e : a = b
  · rw [decide_eq_true e, this.mpr e]
  · rw [decide_eq_false e]
    cases q : PyData.eqv (toPy a) (toPy b) with
    | false => rfl
    | true => exact absurd (this.mp q) e
theorem eq_i {i j : Int} {s : Sto} : eqD s (.int i) (.int j) = some (decide (i = j)) := by
  rw [eq_nice (k := 0) (j := 0) rfl rfl]
  congr 1
  rw [decide_eq_decide]
  exact ⟨fun h => D.int.inj h, fun h => by rw [h]⟩
theorem nice_ints (xs : List Int) : nices 0 (xs.map .int) = true := by
  induction xs with
  | nil => rfl
  | cons x r ih => simp [nices, nice, ih]
theorem eq_bl {s : Sto} {x y : Bool} : eqD s (.bl x) (.bl y) = some (x == y) := by
  cases x <;> cases y <;> rfl
theorem eq_bi {s : Sto} {x : Bool} {y : Int} : eqD s (.bl x) (.int y) = some ((if x then 1 else 0) == y) := by
  cases x <;> rfl
end EV

/-! the class in evaluations -/
namespace EV
open PySem PySem.Spec PyProof.Rows L2
section
variable {α β : Type} {s s1 : Sto} {ρ ρ1 : Env} {CT : CTb} {L : Nat} {N : Env → Sto → Prop} {R : D → Sto → Prop} {a b c e es : E} {f : Nat} {k : Str} {ng : Bool}
theorem ev_fld : ev CT (.fld k a) ρ s = bnd (ev CT a ρ s) fun x s1 => pur s1 (fldD s1 x k) := by rw [ev] <;> rfl
theorem ev_mth : ev CT (.mth f a es) ρ s = bnd (ev CT a ρ s) fun x s1 => if isPil s1 x = true then bnd (evs CT es ρ s1) fun xs s2 => CT f (x :: xs) s2 else none := by rw [ev] <;> rfl
theorem ev_msp : ev CT (.msp f a e) ρ s = bnd (ev CT a ρ s) fun x s1 => if isPil s1 x = true then bnd (ev CT e ρ s1) fun y s2 => match y with
    | .tup ys => CT f (x :: ys) s2
    | _ => none
    else none := by rw [ev] <;> rfl
theorem ev_prp : ev CT (.prp f a) ρ s = bnd (ev CT a ρ s) fun x s1 => if isPil s1 x = true then okO (CT f [x] s1) else none := by rw [ev] <;> rfl
theorem ev_oln : ev CT (.oln f a) ρ s = bnd (ev CT a ρ s) fun x s1 => if isPil s1 x = true then bnd (okO (CT f [x] s1)) fun r s2 => match r with
    | .int i => if 0 ≤ i ∧ i < 2 ^ 63 then some (.ok (.int i) s2) else none
    | _ => none
    else none := by rw [ev] <;> rfl
theorem ev_con0 : ev CT (.con0 f c a) ρ s = if clsIs ρ c = true then bnd (ev CT a ρ s) fun x s1 => conK CT f [x] s1 else none := by rw [ev] <;> rfl
theorem ev_con1 : ev CT (.con1 f c a b) ρ s = if clsIs ρ c = true then bnd (ev CT a ρ s) fun x s1 => bnd (ev CT b ρ s1) fun y s2 => conK CT f [x, y] s2 else none := by rw [ev] <;> rfl
theorem ev_cmt : ev CT (.cmt f es) ρ s = bnd (evs CT es ρ s) fun xs s1 => CT f (.gf 0 "Pile" :: xs) s1 := by rw [ev] <;> rfl
theorem ev_oeq : ev CT (.oeq ng f a b) ρ s = bnd (ev CT a ρ s) fun x s1 => bnd (ev CT b ρ s1) fun y s2 => if isPil s2 x = true then bnd (okO (CT f [x, y] s2)) fun r s3 => match r with
    | .bl k => some (.ok (.bl (if ng then !k else k)) s3)
    | _ => none
    else none := by rw [ev] <;> rfl
theorem ev_isp : ev CT (.isp a) ρ s = bnd (ev CT a ρ s) fun x s1 => match x with
    | .loc n => if isPil s1 (.loc n) = true then some (.ok (.bl true) s1) else none
    | .tup _ => some (.ok (.bl false) s1)
    | _ => none := by rw [ev] <;> rfl
theorem ev_ccn : ev CT (.ccn k f) ρ s = CT f [] s := by rw [ev] <;> rfl
theorem okO_ok {d : D} : okO (some (.ok d s)) = some (.ok d s) := nr rfl
theorem conK_ok {xs : List D} (h : CT f (.loc s.length :: xs) (s ++ [.ins []]) = some (.ok .non s1)) : conK CT f xs s = some (.ok (.loc s.length) s1) := by
  unfold conK
  rw [h]
  rfl
theorem wps_fst (h : WPE (ev CT e ρ s) fun y s1 => WPE (ev CT a ρ s1) fun x s2 => ∃ s3, fstD L x k y s2 = some s3 ∧ N ρ s3) : WPS (ex CT L (.fst a k e) ρ s) N R := by
  rw [ex]
  refine WPS.sbd (h.mono fun y s1 q => ?_)
  refine WPS.sbd (q.mono fun x s2 ⟨s3, e1, q⟩ => ?_)
  rw [e1]
  exact q
theorem wps_pop (h : WPE (ev CT a ρ s) fun x s1 => ∃ s2, popD L x s1 = some s2 ∧ N ρ s2) : WPS (ex CT L (.pop a) ρ s) N R := by
  rw [ex]
  refine WPS.sbd (h.mono fun x s2 ⟨s3, e1, q⟩ => ?_)
  rw [e1]
  exact q
theorem run_wp {F : Fn} {ds : List D} {Q : D → Sto → Prop} (hl : ds.length = F.np)
    (hw : WPS (ex CT s.length F.body (ds.map some ++ List.replicate (F.ns - F.np) none) s) (fun _ s1 => WPE (fin F.fz s.length s1 .non) Q) (fun r s1 => WPE (fin F.fz s.length s1 r) Q)) : WPE (run CT F ds s) Q := by
  unfold run
  rw [if_pos hl]
  match e : ex CT s.length F.body (ds.map some ++ List.replicate (F.ns - F.np) none) s with
  | some (.nx ρ1 s1) =>
    rw [e] at hw
    exact hw
  | some (.ret d s1) =>
    rw [e] at hw
    exact hw
  | some (.exc k ρ s1) =>
    rw [e] at hw
    exact hw.elim
  | none =>
    rw [e] at hw
    exact hw.elim
theorem runI_wp {F : Fn} {ds : List D} {Q : D → Sto → Prop} (hl : ds.length = F.np) (hf : F.fz = false)
    (hw : WPS (ex CT (s.length - 1) F.body (ds.map some ++ List.replicate (F.ns - F.np) none) s) (fun _ s1 => Q .non s1) (fun r s1 => Q r s1)) : WPE (runI CT F ds s) Q := by
  unfold runI
  rw [if_pos ⟨hl, hf⟩]
  match e : ex CT (s.length - 1) F.body (ds.map some ++ List.replicate (F.ns - F.np) none) s with
  | some (.nx ρ1 s1) =>
    rw [e] at hw
    exact .ok hw
  | some (.ret d s1) =>
    rw [e] at hw
    exact .ok hw
  | some (.exc k ρ s1) =>
    rw [e] at hw
    exact hw.elim
  | none =>
    rw [e] at hw
    exact hw.elim
theorem cal_mth {G : Nat → Option Ent} {n i k : Nat} {F : Fn} (h : G i = some (.mth k F)) (ds : List D) (s : Sto) : cal G (n + 2) i ds s = run (cal G n) F ds s := by simp only [cal, h]
theorem cal_mthv {G : Nat → Option Ent} {n i kf : Nat} {F : Fn} (h : G i = some (.mthv F kf)) (ds : List D) (s : Sto) (hk : kf ≤ ds.length) (hz : (ds.drop kf).length ≤ 1000) : cal G (n + 2) i ds s = run (cal G n) F (ds.take kf ++ [.tup (ds.drop kf)]) s := by
  simp only [cal, h]
  rw [if_pos ⟨hk, Nat.le_trans hz (by decide)⟩]
theorem cal_ini {G : Nat → Option Ent} {n i : Nat} {w : Bool} {F : Fn} {dds : List D} (h : G i = some (.ini w F dds)) (ds : List D) (s : Sto) : cal G (n + 2) i ds s = runI (cal G n) F (ds ++ dds) s := by simp only [cal, h]
end
end EV

set_option maxHeartbeats 4000000
/-! spans -/
namespace EV
open PySem PySem.Spec PyProof.Rows L2
inductive Wd where
  | cut | evens | half | odds | rest | skip | turn
deriving DecidableEq
def Wd.s : Wd → Str
  | .cut => "cut" | .evens => "evens" | .half => "half" | .odds => "odds" | .rest => "rest" | .skip => "skip" | .turn => "turn"
def wD (w : Wd) : D := .str w.s
theorem wD_nice (w : Wd) (k : Nat) : nice k (wD w) = true := by
  have h : PyData.canLay0 (.str w.s) = true := by cases w <;> decide +kernel
  cases k <;> exact h
theorem Wd.s_inj (v w : Wd) : v.s = w.s → v = w := by
  cases v <;> cases w <;> first | (intro _; rfl) | (intro h; exact absurd h (by decide +kernel))
theorem wd_eq (s : Sto) (v w : Wd) : eqD s (wD v) (wD w) = some (decide (v = w)) := by
  rw [eq_nice (wD_nice v 0) (wD_nice w 0)]
  congr 1
  rw [decide_eq_decide]
  constructor
  · intro h
    exact Wd.s_inj _ _ (D.str.inj h)
  · intro h
    rw [h]
section
variable {s : Sto} {w : Wd}
theorem q_cut : eqD s (wD w) (.str "cut") = some (decide (w = .cut)) := wd_eq s w .cut
theorem q_evens : eqD s (wD w) (.str "evens") = some (decide (w = .evens)) := wd_eq s w .evens
theorem q_half : eqD s (wD w) (.str "half") = some (decide (w = .half)) := wd_eq s w .half
theorem q_odds : eqD s (wD w) (.str "odds") = some (decide (w = .odds)) := wd_eq s w .odds
theorem q_rest : eqD s (wD w) (.str "rest") = some (decide (w = .rest)) := wd_eq s w .rest
theorem q_skip : eqD s (wD w) (.str "skip") = some (decide (w = .skip)) := wd_eq s w .skip
theorem q_turn : eqD s (wD w) (.str "turn") = some (decide (w = .turn)) := wd_eq s w .turn
end
structure Sp where
  f : Int
  s : Int
  n : Int
deriving DecidableEq
def spD (p : Sp) : D := .tup [.int p.f, .int p.s, .int p.n]
def Sp.after (p : Sp) : Wd → Sp
  | .turn => ⟨p.f + p.s * (p.n - 1), 0 - p.s, p.n⟩
  | .odds => ⟨p.f, 2 * p.s, (p.n + 1) / 2⟩
  | .evens => ⟨p.f + p.s, 2 * p.s, p.n / 2⟩
  | .half => ⟨p.f, p.s, (p.n + 1) / 2⟩
  | .rest => ⟨p.f + p.s * ((p.n + 1) / 2), p.s, p.n / 2⟩
  | .skip => ⟨p.f + p.s, p.s, max 0 (p.n - 1)⟩
  | .cut => ⟨p.f, p.s, max 0 (p.n - 1)⟩
def big : Int := 2 ^ 62
theorem cmul_l {i j : Int} (h : i.natAbs < 2 ^ 62) : CMul i j := by
  left
  omega
theorem cmul_r {i j : Int} (h : j.natAbs < 2 ^ 62) : CMul i j := by
  right
  omega
theorem fdiv_two (a : Int) : a.fdiv 2 = a / 2 := Int.fdiv_eq_ediv_of_nonneg _ (by omega)
theorem max2 {i j : Int} : max2D (.int i) (.int j) = some (.int (max i j)) := by
  simp only [max2D, Option.some.injEq, D.int.injEq]
  split <;> omega
theorem min2 {i j : Int} : min2D (.int i) (.int j) = some (.int (min i j)) := by
  simp only [min2D, Option.some.injEq, D.int.injEq]
  split <;> omega
theorem fit3 (n : Nat) (h : n ≤ 1000) : n ≤ sizeLine := Nat.le_trans h (by decide)
theorem tup_ok {xs : List D} {s : Sto} (h : xs.length ≤ 1000) : (if xs.length ≤ sizeLine then some (Out.ok (D.tup xs) s) else none) = some (Out.ok (D.tup xs) s) := if_pos (fit3 _ h)
theorem spD_noloc (p : Sp) : noloc (spD p) = true := rfl
theorem after_word_ok {n : Nat} {p : Sp} {w : Wd} {s : Sto} (h : p.s.natAbs < 2 ^ 60) : cal GG (n + 1) i_after_word [spD p, wD w] s = some (.ok (spD (p.after w)) s) := by
  refine cal_pure Gi_after_word rfl rfl rfl ?_
  show WPS (ex _ _ _ [some (.tup [.int p.f, .int p.s, .int p.n]), some (wD w), none, none, none] s) _ _
  refine wps_seq ?_
  simp only [ev_var, ev_cint, ev_cstr, ev_cbl, ev_cnon, ev_g, ev_bin, ev_neg, ev_not, ev_cmp, ev_chn, ev_chn3, ev_dst, ev_revT, ev_stp, ev_lix, ev_err, ev_srt, ev_wlk, ev_lgn, lstO_ok, ev_gf, ev_isl, ev_fld, ev_mth, ev_msp, ev_prp, ev_oln, ev_con0, ev_con1, ev_cmt, ev_oeq, ev_isp, ev_ccn, okO_ok, ev_cav, ev_cpm, ev_and, ev_or, ev_ite, ev_tup, ev_lst, ev_call, ev_bi, ev_isi, ev_idx, ev_slc, ev_rev, ev_lrng, ev_lrng1, ev_dnew, ev_cpy, ev_comp, mkTup_ok, l_lens, l_len0, Nat.reduceLeDiff, Nat.reduceAdd, evs, evo, evi, bnd_ok, sbd_ok, pur_some, wpe_ok, wps_nx, wps_rt, b_add, b_sub, c_lt, c_le, c_gt, c_ge, c_eq, c_ne, c_in, c_nin, c_is, c_isnot, l_get0, l_gets, l_set0, l_sets, o_map, l_maps, l_map0, l_apps, l_app0, List.append_nil, ex, bindT, bindTs]
  have hk : ∀ j, CMul p.s j := fun j => cmul_l (by omega)
  have h2 : CMul 2 p.s := cmul_l (by decide)
  have hd : ∀ j, CDivN j 2 := fun j => ⟨by decide, by decide⟩
  have key : ∀ (b : S) (d : D), True := fun _ _ => trivial
  cases w <;>
  · simp only [ev_var, ev_cint, ev_cstr, ev_cbl, ev_cnon, ev_g, ev_bin, ev_neg, ev_not, ev_cmp, ev_chn, ev_chn3, ev_dst, ev_revT, ev_stp, ev_lix, ev_err, ev_srt, ev_wlk, ev_lgn, lstO_ok, ev_gf, ev_isl, ev_fld, ev_mth, ev_msp, ev_prp, ev_oln, ev_con0, ev_con1, ev_cmt, ev_oeq, ev_isp, ev_ccn, okO_ok, ev_cav, ev_cpm, ev_and, ev_or, ev_ite, ev_tup, ev_lst, ev_call, ev_bi, ev_isi, ev_idx, ev_slc, ev_rev, ev_lrng, ev_lrng1, ev_dnew, ev_cpy, ev_comp, mkTup_ok, l_lens, l_len0, Nat.reduceLeDiff, Nat.reduceAdd, evs, evo, evi, bnd_ok, sbd_ok, pur_some, wpe_ok, wps_nx, wps_rt, b_add, b_sub, c_lt, c_le, c_gt, c_ge, c_eq, c_ne, c_in, c_nin, c_is, c_isnot, l_get0, l_gets, l_set0, l_sets, o_map, l_maps, l_map0, l_apps, l_app0, List.append_nil, ex, q_turn, q_odds, q_evens, q_half, q_rest, q_skip, decide_true, decide_false, reduceCtorEq, b_mul (hk _), b_mul h2, b_fdiv (hd _), biD, bi1, bi2, intD, max2, fdiv_two, List.length_cons, List.length_nil, spD, Sp.after, Bool.false_eq_true, if_false, if_true]
    try simp only [ev_var, ev_cint, ev_cstr, ev_cbl, ev_cnon, ev_g, ev_bin, ev_neg, ev_not, ev_cmp, ev_chn, ev_chn3, ev_dst, ev_revT, ev_stp, ev_lix, ev_err, ev_srt, ev_wlk, ev_lgn, lstO_ok, ev_gf, ev_isl, ev_fld, ev_mth, ev_msp, ev_prp, ev_oln, ev_con0, ev_con1, ev_cmt, ev_oeq, ev_isp, ev_ccn, okO_ok, ev_cav, ev_cpm, ev_and, ev_or, ev_ite, ev_tup, ev_lst, ev_call, ev_bi, ev_isi, ev_idx, ev_slc, ev_rev, ev_lrng, ev_lrng1, ev_dnew, ev_cpy, ev_comp, mkTup_ok, l_lens, l_len0, Nat.reduceLeDiff, Nat.reduceAdd, evs, evo, evi, bnd_ok, sbd_ok, pur_some, wpe_ok, wps_nx, wps_rt, b_add, b_sub, c_lt, c_le, c_gt, c_ge, c_eq, c_ne, c_in, c_nin, c_is, c_isnot, l_get0, l_gets, l_set0, l_sets, o_map, l_maps, l_map0, l_apps, l_app0, List.append_nil, Int.mul_one, Int.mul_zero, Int.add_zero, and_self]
theorem at_0 {α : Type} {a : α} {r : List α} : atI (a :: r) 0 = some a := by rw [atI_nat' (by decide) (by simp)]; rfl
theorem at_1 {α : Type} {a b : α} {r : List α} : atI (a :: b :: r) 1 = some b := by rw [atI_nat' (by decide) (by simp; omega)]; rfl
theorem at_2 {α : Type} {a b c : α} {r : List α} : atI (a :: b :: c :: r) 2 = some c := by rw [atI_nat' (by decide) (by simp; omega)]; rfl
theorem ix_tup {s : Sto} {xs : List D} {k : Int} : idxD s (.tup xs) (.int k) = atI xs k := nr rfl
theorem ix_lst {s : Sto} {xs : List D} {k : Int} : idxD s (.lst xs) (.int k) = atI xs k := nr rfl
def jD (m : Int) (ws : List Wd) : D := .tup [.int m, .tup (ws.map wD)]
theorem jD_0 {m : Int} {ws : List Wd} {s : Sto} : idxD s (jD m ws) (.int 0) = some (.int m) := by rw [jD, ix_tup, at_0]
theorem jD_1 {m : Int} {ws : List Wd} {s : Sto} : idxD s (jD m ws) (.int 1) = some (.tup (ws.map wD)) := by rw [jD, ix_tup, at_1]
theorem wds_noloc (ws : List Wd) : nolocs (ws.map wD) = true := by
  induction ws with
  | nil => rfl
  | cons w r ih => simp [nolocs, noloc, wD, ih]
theorem jD_noloc (m : Int) (ws : List Wd) : noloc (jD m ws) = true := by simp [noloc, nolocs, jD, wds_noloc]
theorem rounded_ok {n : Nat} {m p : Int} {s : Sto} (h : 0 < m) (h2 : m < 1000) : cal GG (n + 1) i_rounded [.int m, .int p] s = some (.ok (.int ((p + m - 1) / m * m)) s) := by
  refine cal_pure Gi_rounded rfl rfl rfl ?_
  show WPS (ex _ _ _ [some (.int m), some (.int p)] s) _ _
  have hd : CDivN (p + m - 1) m := ⟨by omega, by omega⟩
  have hm : CMul ((p + m - 1) / m) m := cmul_r (by omega)
  refine wps_seq (wps_ret ?_)
  simp only [ev_var, ev_cint, ev_cstr, ev_cbl, ev_cnon, ev_g, ev_bin, ev_neg, ev_not, ev_cmp, ev_chn, ev_chn3, ev_dst, ev_revT, ev_stp, ev_lix, ev_err, ev_srt, ev_wlk, ev_lgn, lstO_ok, ev_gf, ev_isl, ev_fld, ev_mth, ev_msp, ev_prp, ev_oln, ev_con0, ev_con1, ev_cmt, ev_oeq, ev_isp, ev_ccn, okO_ok, ev_cav, ev_cpm, ev_and, ev_or, ev_ite, ev_tup, ev_lst, ev_call, ev_bi, ev_isi, ev_idx, ev_slc, ev_rev, ev_lrng, ev_lrng1, ev_dnew, ev_cpy, ev_comp, mkTup_ok, l_lens, l_len0, Nat.reduceLeDiff, Nat.reduceAdd, evs, evo, evi, bnd_ok, sbd_ok, pur_some, wpe_ok, wps_nx, wps_rt, b_add, b_sub, c_lt, c_le, c_gt, c_ge, c_eq, c_ne, c_in, c_nin, c_is, c_isnot, l_get0, l_gets, l_set0, l_sets, o_map, l_maps, l_map0, l_apps, l_app0, List.append_nil, b_fdiv hd, b_mul hm, Int.fdiv_eq_ediv_of_nonneg _ (Int.le_of_lt h), and_self]
def spanOf (m : Int) (ws : List Wd) (p : Int) : Sp := ws.foldl Sp.after ⟨1, 1, (p + m - 1) / m * m⟩
theorem after_abs (p : Sp) (w : Wd) : (p.after w).s.natAbs ≤ 2 * p.s.natAbs := by cases w <;> simp only [Sp.after] <;> omega
theorem span_of_ok {n : Nat} {m p : Int} {ws : List Wd} {s : Sto} (h : 0 < m) (h2 : m < 1000) (hl : ws.length ≤ 50) : cal GG (n + 2) i_span_of [jD m ws, .int p] s = some (.ok (spD (spanOf m ws p)) s) := by
  refine cal_pure Gi_span_of rfl rfl rfl ?_
  show WPS (ex _ _ _ [some (jD m ws), some (.int p), none, none] s) _ _
  refine wps_seq (wps_set ?_)
  simp only [ev_var, ev_cint, ev_cstr, ev_cbl, ev_cnon, ev_g, ev_bin, ev_neg, ev_not, ev_cmp, ev_chn, ev_chn3, ev_dst, ev_revT, ev_stp, ev_lix, ev_err, ev_srt, ev_wlk, ev_lgn, lstO_ok, ev_gf, ev_isl, ev_fld, ev_mth, ev_msp, ev_prp, ev_oln, ev_con0, ev_con1, ev_cmt, ev_oeq, ev_isp, ev_ccn, okO_ok, ev_cav, ev_cpm, ev_and, ev_or, ev_ite, ev_tup, ev_lst, ev_call, ev_bi, ev_isi, ev_idx, ev_slc, ev_rev, ev_lrng, ev_lrng1, ev_dnew, ev_cpy, ev_comp, mkTup_ok, l_lens, l_len0, Nat.reduceLeDiff, Nat.reduceAdd, evs, evo, evi, bnd_ok, sbd_ok, pur_some, wpe_ok, wps_nx, wps_rt, b_add, b_sub, c_lt, c_le, c_gt, c_ge, c_eq, c_ne, c_in, c_nin, c_is, c_isnot, l_get0, l_gets, l_set0, l_sets, o_map, l_maps, l_map0, l_apps, l_app0, List.append_nil, jD, ix_tup, at_0, rounded_ok h h2]
  refine wps_seq (wps_forR (fun xs ρ s1 => ∃ (rest : List Wd) (cur : Sp) (y : Option D), xs = rest.map wD ∧ ρ = [some (jD m ws), some (.int p), some (spD cur), y] ∧ s1 = s ∧ cur.s.natAbs * 2 ^ rest.length < 2 ^ 60 ∧ rest.foldl Sp.after cur = spanOf m ws p) ?_ ?_ ?_)
  · refine WPE.mk (a := ws.map wD) (s := s) (by simp only [ev_var, ev_cint, ev_cstr, ev_cbl, ev_cnon, ev_g, ev_bin, ev_neg, ev_not, ev_cmp, ev_chn, ev_chn3, ev_dst, ev_revT, ev_stp, ev_lix, ev_err, ev_srt, ev_wlk, ev_lgn, lstO_ok, ev_gf, ev_isl, ev_fld, ev_mth, ev_msp, ev_prp, ev_oln, ev_con0, ev_con1, ev_cmt, ev_oeq, ev_isp, ev_ccn, okO_ok, ev_cav, ev_cpm, ev_and, ev_or, ev_ite, ev_tup, ev_lst, ev_call, ev_bi, ev_isi, ev_idx, ev_slc, ev_rev, ev_lrng, ev_lrng1, ev_dnew, ev_cpy, ev_comp, mkTup_ok, l_lens, l_len0, Nat.reduceLeDiff, Nat.reduceAdd, evs, evo, evi, bnd_ok, sbd_ok, pur_some, wpe_ok, wps_nx, wps_rt, b_add, b_sub, c_lt, c_le, c_gt, c_ge, c_eq, c_ne, c_in, c_nin, c_is, c_isnot, l_get0, l_gets, l_set0, l_sets, o_map, l_maps, l_map0, l_apps, l_app0, List.append_nil, jD, ix_tup, at_1]) ⟨ws, ⟨1, 1, _⟩, none, rfl, rfl, rfl, ?_, rfl⟩
    have : (2 : Nat) ^ ws.length ≤ 2 ^ 50 := Nat.pow_le_pow_right (by omega) hl
    simp only [Int.natAbs_one, Nat.one_mul]
    omega
  · rintro x xs ρ s1 ⟨rest, cur, y, e, rfl, rfl, hb, ht⟩
    cases rest with
    | nil => cases e
    | cons w rest =>
      rw [List.map_cons, List.cons.injEq] at e
      obtain ⟨rfl, rfl⟩ := e
      refine ⟨_, rfl, wps_seq (wps_set ?_)⟩
      have hs : cur.s.natAbs < 2 ^ 60 := by
        have : 0 < 2 ^ (w :: rest).length := Nat.two_pow_pos _
        exact Nat.lt_of_le_of_lt (Nat.le_mul_of_pos_right _ this) hb
      simp only [ev_var, ev_cint, ev_cstr, ev_cbl, ev_cnon, ev_g, ev_bin, ev_neg, ev_not, ev_cmp, ev_chn, ev_chn3, ev_dst, ev_revT, ev_stp, ev_lix, ev_err, ev_srt, ev_wlk, ev_lgn, lstO_ok, ev_gf, ev_isl, ev_fld, ev_mth, ev_msp, ev_prp, ev_oln, ev_con0, ev_con1, ev_cmt, ev_oeq, ev_isp, ev_ccn, okO_ok, ev_cav, ev_cpm, ev_and, ev_or, ev_ite, ev_tup, ev_lst, ev_call, ev_bi, ev_isi, ev_idx, ev_slc, ev_rev, ev_lrng, ev_lrng1, ev_dnew, ev_cpy, ev_comp, mkTup_ok, l_lens, l_len0, Nat.reduceLeDiff, Nat.reduceAdd, evs, evo, evi, bnd_ok, sbd_ok, pur_some, wpe_ok, wps_nx, wps_rt, b_add, b_sub, c_lt, c_le, c_gt, c_ge, c_eq, c_ne, c_in, c_nin, c_is, c_isnot, l_get0, l_gets, l_set0, l_sets, o_map, l_maps, l_map0, l_apps, l_app0, List.append_nil, after_word_ok hs]
      refine wps_skip ⟨rest, cur.after w, _, rfl, rfl, rfl, ?_, ht⟩
      have := after_abs cur w
      rw [List.length_cons, Nat.pow_succ] at hb
      calc (cur.after w).s.natAbs * 2 ^ rest.length ≤ 2 * cur.s.natAbs * 2 ^ rest.length := Nat.mul_le_mul_right _ this
        _ = cur.s.natAbs * (2 ^ rest.length * 2) := by rw [Nat.mul_comm 2, Nat.mul_assoc, Nat.mul_comm 2]
        _ < 2 ^ 60 := hb
  · rintro ρ s1 ⟨rest, cur, y, e, rfl, rfl, hb, ht⟩
    have e : rest = [] := by simpa using e.symm
    subst e
    refine wps_seq (wps_ret ?_)
    have ht : cur = spanOf m ws p := ht
    simp only [ev_var, ev_cint, ev_cstr, ev_cbl, ev_cnon, ev_g, ev_bin, ev_neg, ev_not, ev_cmp, ev_chn, ev_chn3, ev_dst, ev_revT, ev_stp, ev_lix, ev_err, ev_srt, ev_wlk, ev_lgn, lstO_ok, ev_gf, ev_isl, ev_fld, ev_mth, ev_msp, ev_prp, ev_oln, ev_con0, ev_con1, ev_cmt, ev_oeq, ev_isp, ev_ccn, okO_ok, ev_cav, ev_cpm, ev_and, ev_or, ev_ite, ev_tup, ev_lst, ev_call, ev_bi, ev_isi, ev_idx, ev_slc, ev_rev, ev_lrng, ev_lrng1, ev_dnew, ev_cpy, ev_comp, mkTup_ok, l_lens, l_len0, Nat.reduceLeDiff, Nat.reduceAdd, evs, evo, evi, bnd_ok, sbd_ok, pur_some, wpe_ok, wps_nx, wps_rt, b_add, b_sub, c_lt, c_le, c_gt, c_ge, c_eq, c_ne, c_in, c_nin, c_is, c_isnot, l_get0, l_gets, l_set0, l_sets, o_map, l_maps, l_map0, l_apps, l_app0, List.append_nil, ht, and_self]
end EV

set_option maxHeartbeats 4000000
/-! what a job is -/
namespace EV
open PySem PySem.Spec PyProof.Rows L2
theorem compL_map {f : D → Sto → Option (Out (Option D))} {g : D → D} {s : Sto} : ∀ {xs : List D}, (∀ x ∈ xs, f x s = some (.ok (some (g x)) s)) → compL f xs s = some (.ok (xs.map g) s)
  | [], _ => rfl
  | x :: xs, h => by
    unfold compL
    rw [h x (List.mem_cons_self ..)]
    dsimp only
    rw [compL_map fun y hy => h y (List.mem_cons_of_mem _ hy)]
    rfl
def intIn (lo hi : Int) : D → Bool
  | .int v => decide (lo ≤ v) && decide (v ≤ hi)
  | _ => false
theorem is_integer_ok {n : Nat} {lo hi : Int} {d : D} {s : Sto} (h : noloc d = true) (h2 : ∀ ns, d ≠ .scr ns) (h3 : ∀ a, d ≠ .adr a := by (intro a e; cases e)) : cal GG (n + 1) i_is_integer [d, .int lo, .int hi] s = some (.ok (.bl (intIn lo hi d)) s) := by
  refine cal_pure Gi_is_integer rfl rfl rfl ?_
  show WPS (ex _ _ _ [some d, some (.int lo), some (.int hi)] s) _ _
  refine wps_seq (wps_ret ?_)
  cases d with
  | loc n => cases h
  | scr ns => exact absurd rfl (h2 ns)
  | adr a => exact absurd rfl (h3 a)
  | gf i x => cases h
  | int v =>
    simp only [ev_var, ev_cint, ev_cstr, ev_cbl, ev_cnon, ev_g, ev_bin, ev_neg, ev_not, ev_cmp, ev_chn, ev_chn3, ev_dst, ev_revT, ev_stp, ev_lix, ev_err, ev_srt, ev_wlk, ev_lgn, lstO_ok, ev_gf, ev_isl, ev_fld, ev_mth, ev_msp, ev_prp, ev_oln, ev_con0, ev_con1, ev_cmt, ev_oeq, ev_isp, ev_ccn, okO_ok, ev_cav, ev_cpm, ev_and, ev_or, ev_ite, ev_tup, ev_lst, ev_call, ev_bi, ev_isi, ev_idx, ev_slc, ev_rev, ev_lrng, ev_lrng1, ev_dnew, ev_cpy, ev_comp, mkTup_ok, l_lens, l_len0, Nat.reduceLeDiff, Nat.reduceAdd, evs, evo, evi, bnd_ok, sbd_ok, pur_some, wpe_ok, wps_nx, wps_rt, b_add, b_sub, c_lt, c_le, c_gt, c_ge, c_eq, c_ne, c_in, c_nin, c_is, c_isnot, l_get0, l_gets, l_set0, l_sets, o_map, l_maps, l_map0, l_apps, l_app0, List.append_nil, isTys, isTy, Bool.not_false]
    by_cases e : lo ≤ v
    · simp only [ev_var, ev_cint, ev_cstr, ev_cbl, ev_cnon, ev_g, ev_bin, ev_neg, ev_not, ev_cmp, ev_chn, ev_chn3, ev_dst, ev_revT, ev_stp, ev_lix, ev_err, ev_srt, ev_wlk, ev_lgn, lstO_ok, ev_gf, ev_isl, ev_fld, ev_mth, ev_msp, ev_prp, ev_oln, ev_con0, ev_con1, ev_cmt, ev_oeq, ev_isp, ev_ccn, okO_ok, ev_cav, ev_cpm, ev_and, ev_or, ev_ite, ev_tup, ev_lst, ev_call, ev_bi, ev_isi, ev_idx, ev_slc, ev_rev, ev_lrng, ev_lrng1, ev_dnew, ev_cpy, ev_comp, mkTup_ok, l_lens, l_len0, Nat.reduceLeDiff, Nat.reduceAdd, evs, evo, evi, bnd_ok, sbd_ok, pur_some, wpe_ok, wps_nx, wps_rt, b_add, b_sub, c_lt, c_le, c_gt, c_ge, c_eq, c_ne, c_in, c_nin, c_is, c_isnot, l_get0, l_gets, l_set0, l_sets, o_map, l_maps, l_map0, l_apps, l_app0, List.append_nil, decide_eq_true e, intIn, Bool.true_and, and_self]
    · simp only [ev_var, ev_cint, ev_cstr, ev_cbl, ev_cnon, ev_g, ev_bin, ev_neg, ev_not, ev_cmp, ev_chn, ev_chn3, ev_dst, ev_revT, ev_stp, ev_lix, ev_err, ev_srt, ev_wlk, ev_lgn, lstO_ok, ev_gf, ev_isl, ev_fld, ev_mth, ev_msp, ev_prp, ev_oln, ev_con0, ev_con1, ev_cmt, ev_oeq, ev_isp, ev_ccn, okO_ok, ev_cav, ev_cpm, ev_and, ev_or, ev_ite, ev_tup, ev_lst, ev_call, ev_bi, ev_isi, ev_idx, ev_slc, ev_rev, ev_lrng, ev_lrng1, ev_dnew, ev_cpy, ev_comp, mkTup_ok, l_lens, l_len0, Nat.reduceLeDiff, Nat.reduceAdd, evs, evo, evi, bnd_ok, sbd_ok, pur_some, wpe_ok, wps_nx, wps_rt, b_add, b_sub, c_lt, c_le, c_gt, c_ge, c_eq, c_ne, c_in, c_nin, c_is, c_isnot, l_get0, l_gets, l_set0, l_sets, o_map, l_maps, l_map0, l_apps, l_app0, List.append_nil, decide_eq_false e, intIn, Bool.false_and, and_self]
  | _ => simp only [ev_var, ev_cint, ev_cstr, ev_cbl, ev_cnon, ev_g, ev_bin, ev_neg, ev_not, ev_cmp, ev_chn, ev_chn3, ev_dst, ev_revT, ev_stp, ev_lix, ev_err, ev_srt, ev_wlk, ev_lgn, lstO_ok, ev_gf, ev_isl, ev_fld, ev_mth, ev_msp, ev_prp, ev_oln, ev_con0, ev_con1, ev_cmt, ev_oeq, ev_isp, ev_ccn, okO_ok, ev_cav, ev_cpm, ev_and, ev_or, ev_ite, ev_tup, ev_lst, ev_call, ev_bi, ev_isi, ev_idx, ev_slc, ev_rev, ev_lrng, ev_lrng1, ev_dnew, ev_cpy, ev_comp, mkTup_ok, l_lens, l_len0, Nat.reduceLeDiff, Nat.reduceAdd, evs, evo, evi, bnd_ok, sbd_ok, pur_some, wpe_ok, wps_nx, wps_rt, b_add, b_sub, c_lt, c_le, c_gt, c_ge, c_eq, c_ne, c_in, c_nin, c_is, c_isnot, l_get0, l_gets, l_set0, l_sets, o_map, l_maps, l_map0, l_apps, l_app0, List.append_nil, isTys, isTy, Bool.not_true, intIn, and_self]
theorem is_integer_int {n : Nat} {lo hi v : Int} {s : Sto} : cal GG (n + 1) i_is_integer [.int v, .int lo, .int hi] s = some (.ok (.bl (decide (lo ≤ v) && decide (v ≤ hi))) s) := is_integer_ok rfl (by intro ns e; cases e)
def MOk (m : Int) : Prop := m = 1 ∨ m = 2 ∨ m = 4 ∨ m = 8
theorem is_multiple_ok {n : Nat} {m : Int} {s : Sto} (h : MOk m) : cal GG (n + 2) i_is_multiple [.int m] s = some (.ok (.bl true) s) := by
  refine cal_pure Gi_is_multiple rfl rfl rfl ?_
  show WPS (ex _ _ _ [some (.int m)] s) _ _
  refine wps_seq (wps_ret ?_)
  rcases h with rfl | rfl | rfl | rfl <;>
  · simp only [ev_var, ev_cint, ev_cstr, ev_cbl, ev_cnon, ev_g, ev_bin, ev_neg, ev_not, ev_cmp, ev_chn, ev_chn3, ev_dst, ev_revT, ev_stp, ev_lix, ev_err, ev_srt, ev_wlk, ev_lgn, lstO_ok, ev_gf, ev_isl, ev_fld, ev_mth, ev_msp, ev_prp, ev_oln, ev_con0, ev_con1, ev_cmt, ev_oeq, ev_isp, ev_ccn, okO_ok, ev_cav, ev_cpm, ev_and, ev_or, ev_ite, ev_tup, ev_lst, ev_call, ev_bi, ev_isi, ev_idx, ev_slc, ev_rev, ev_lrng, ev_lrng1, ev_dnew, ev_cpy, ev_comp, mkTup_ok, l_lens, l_len0, Nat.reduceLeDiff, Nat.reduceAdd, evs, evo, evi, bnd_ok, sbd_ok, pur_some, wpe_ok, wps_nx, wps_rt, b_add, b_sub, c_lt, c_le, c_gt, c_ge, c_eq, c_ne, c_in, c_nin, c_is, c_isnot, l_get0, l_gets, l_set0, l_sets, o_map, l_maps, l_map0, l_apps, l_app0, List.append_nil, is_integer_int, decide_true, Bool.and_self, cal_con Gi_MULTIPLES]
    exact ⟨_, _, rfl, rfl, rfl⟩
theorem is_word_ok {n : Nat} {w : Wd} {s : Sto} : cal GG (n + 1) i_is_word [wD w] s = some (.ok (.bl true) s) := by
  refine cal_pure Gi_is_word rfl rfl rfl ?_
  show WPS (ex _ _ _ [some (wD w)] s) _ _
  refine wps_seq (wps_ret ?_)
  have h1 : isTys [.str] (wD w) = some true := rfl
  have h2 : ∀ s, inD s (wD w) (.tup [.str "cut", .str "evens", .str "half", .str "odds", .str "rest", .str "skip", .str "turn"]) = some true := by
    intro s
    have : inD [] (wD w) (.tup [.str "cut", .str "evens", .str "half", .str "odds", .str "rest", .str "skip", .str "turn"]) = some true := by cases w <;> decide +kernel
    exact this
  simp only [ev_var, ev_cint, ev_cstr, ev_cbl, ev_cnon, ev_g, ev_bin, ev_neg, ev_not, ev_cmp, ev_chn, ev_chn3, ev_dst, ev_revT, ev_stp, ev_lix, ev_err, ev_srt, ev_wlk, ev_lgn, lstO_ok, ev_gf, ev_isl, ev_fld, ev_mth, ev_msp, ev_prp, ev_oln, ev_con0, ev_con1, ev_cmt, ev_oeq, ev_isp, ev_ccn, okO_ok, ev_cav, ev_cpm, ev_and, ev_or, ev_ite, ev_tup, ev_lst, ev_call, ev_bi, ev_isi, ev_idx, ev_slc, ev_rev, ev_lrng, ev_lrng1, ev_dnew, ev_cpy, ev_comp, mkTup_ok, l_lens, l_len0, Nat.reduceLeDiff, Nat.reduceAdd, evs, evo, evi, bnd_ok, sbd_ok, pur_some, wpe_ok, wps_nx, wps_rt, b_add, b_sub, c_lt, c_le, c_gt, c_ge, c_eq, c_ne, c_in, c_nin, c_is, c_isnot, l_get0, l_gets, l_set0, l_sets, o_map, l_maps, l_map0, l_apps, l_app0, List.append_nil, h1, cal_con Gi_WORDS, h2, and_self]
theorem all_true {s : Sto} {xs : List D} : bi1 .all s (.lst (xs.map fun _ => .bl true)) = some (.bl true) := by
  have h : blsOf (xs.map fun _ => .bl true) = some (xs.map fun _ => true) := by
    induction xs with
    | nil => rfl
    | cons x r ih => simp only [List.map_cons, blsOf, ih, Option.map_some]
  simp only [bi1, blsD, deref, h, Option.map_some]
  congr 1
  congr 1
  induction xs with
  | nil => rfl
  | cons x r ih => simp
def JOk (m : Int) (ws : List Wd) : Prop := MOk m ∧ ws.length ≤ 10
theorem len_tup {s : Sto} {xs : List D} : bi1 .len s (.tup xs) = some (.int xs.length) := nr rfl
theorem len_lst {s : Sto} {xs : List D} : bi1 .len s (.lst xs) = some (.int xs.length) := nr rfl
theorem is_job_ok {n : Nat} {m : Int} {ws : List Wd} {s : Sto} (h : JOk m ws) : cal GG (n + 3) i_is_job [jD m ws] s = some (.ok (.bl true) s) := by
  obtain ⟨h1, h2⟩ := h
  refine cal_pure Gi_is_job rfl rfl rfl ?_
  show WPS (ex _ _ _ [some (jD m ws), none] s) _ _
  have e1 : isTys [.tuple] (jD m ws) = some true := rfl
  have e2 : isTys [.tuple] (.tup (ws.map wD)) = some true := rfl
  refine wps_seq (wps_if (b := false) (WPE.of_eq ?_) (fun z => absurd z (by decide)) fun _ => ?_)
  · simp only [ev_var, ev_cint, ev_cstr, ev_cbl, ev_cnon, ev_g, ev_bin, ev_neg, ev_not, ev_cmp, ev_chn, ev_chn3, ev_dst, ev_revT, ev_stp, ev_lix, ev_err, ev_srt, ev_wlk, ev_lgn, lstO_ok, ev_gf, ev_isl, ev_fld, ev_mth, ev_msp, ev_prp, ev_oln, ev_con0, ev_con1, ev_cmt, ev_oeq, ev_isp, ev_ccn, okO_ok, ev_cav, ev_cpm, ev_and, ev_or, ev_ite, ev_tup, ev_lst, ev_call, ev_bi, ev_isi, ev_idx, ev_slc, ev_rev, ev_lrng, ev_lrng1, ev_dnew, ev_cpy, ev_comp, mkTup_ok, l_lens, l_len0, Nat.reduceLeDiff, Nat.reduceAdd, evs, evo, evi, bnd_ok, sbd_ok, pur_some, wpe_ok, wps_nx, wps_rt, b_add, b_sub, c_lt, c_le, c_gt, c_ge, c_eq, c_ne, c_in, c_nin, c_is, c_isnot, l_get0, l_gets, l_set0, l_sets, o_map, l_maps, l_map0, l_apps, l_app0, List.append_nil, e1, Bool.not_true, biD]
    rw [show bi1 .len s (jD m ws) = some (.int 2) from rfl]
    simp only [ev_var, ev_cint, ev_cstr, ev_cbl, ev_cnon, ev_g, ev_bin, ev_neg, ev_not, ev_cmp, ev_chn, ev_chn3, ev_dst, ev_revT, ev_stp, ev_lix, ev_err, ev_srt, ev_wlk, ev_lgn, lstO_ok, ev_gf, ev_isl, ev_fld, ev_mth, ev_msp, ev_prp, ev_oln, ev_con0, ev_con1, ev_cmt, ev_oeq, ev_isp, ev_ccn, okO_ok, ev_cav, ev_cpm, ev_and, ev_or, ev_ite, ev_tup, ev_lst, ev_call, ev_bi, ev_isi, ev_idx, ev_slc, ev_rev, ev_lrng, ev_lrng1, ev_dnew, ev_cpy, ev_comp, mkTup_ok, l_lens, l_len0, Nat.reduceLeDiff, Nat.reduceAdd, evs, evo, evi, bnd_ok, sbd_ok, pur_some, wpe_ok, wps_nx, wps_rt, b_add, b_sub, c_lt, c_le, c_gt, c_ge, c_eq, c_ne, c_in, c_nin, c_is, c_isnot, l_get0, l_gets, l_set0, l_sets, o_map, l_maps, l_map0, l_apps, l_app0, List.append_nil]
    rw [eq_nice (k := 0) (j := 0) rfl rfl]
    simp only [ev_var, ev_cint, ev_cstr, ev_cbl, ev_cnon, ev_g, ev_bin, ev_neg, ev_not, ev_cmp, ev_chn, ev_chn3, ev_dst, ev_revT, ev_stp, ev_lix, ev_err, ev_srt, ev_wlk, ev_lgn, lstO_ok, ev_gf, ev_isl, ev_fld, ev_mth, ev_msp, ev_prp, ev_oln, ev_con0, ev_con1, ev_cmt, ev_oeq, ev_isp, ev_ccn, okO_ok, ev_cav, ev_cpm, ev_and, ev_or, ev_ite, ev_tup, ev_lst, ev_call, ev_bi, ev_isi, ev_idx, ev_slc, ev_rev, ev_lrng, ev_lrng1, ev_dnew, ev_cpy, ev_comp, mkTup_ok, l_lens, l_len0, Nat.reduceLeDiff, Nat.reduceAdd, evs, evo, evi, bnd_ok, sbd_ok, pur_some, wpe_ok, wps_nx, wps_rt, b_add, b_sub, c_lt, c_le, c_gt, c_ge, c_eq, c_ne, c_in, c_nin, c_is, c_isnot, l_get0, l_gets, l_set0, l_sets, o_map, l_maps, l_map0, l_apps, l_app0, List.append_nil, decide_true, Bool.not_true, jD, ix_tup, at_0, is_multiple_ok h1]
  · refine wps_skip (wps_seq (wps_ret ?_))
    have hl : ((ws.map wD).length : Int) ≤ 10 := by
      rw [List.length_map]
      omega
    simp only [ev_var, ev_cint, ev_cstr, ev_cbl, ev_cnon, ev_g, ev_bin, ev_neg, ev_not, ev_cmp, ev_chn, ev_chn3, ev_dst, ev_revT, ev_stp, ev_lix, ev_err, ev_srt, ev_wlk, ev_lgn, lstO_ok, ev_gf, ev_isl, ev_fld, ev_mth, ev_msp, ev_prp, ev_oln, ev_con0, ev_con1, ev_cmt, ev_oeq, ev_isp, ev_ccn, okO_ok, ev_cav, ev_cpm, ev_and, ev_or, ev_ite, ev_tup, ev_lst, ev_call, ev_bi, ev_isi, ev_idx, ev_slc, ev_rev, ev_lrng, ev_lrng1, ev_dnew, ev_cpy, ev_comp, mkTup_ok, l_lens, l_len0, Nat.reduceLeDiff, Nat.reduceAdd, evs, evo, evi, bnd_ok, sbd_ok, pur_some, wpe_ok, wps_nx, wps_rt, b_add, b_sub, c_lt, c_le, c_gt, c_ge, c_eq, c_ne, c_in, c_nin, c_is, c_isnot, l_get0, l_gets, l_set0, l_sets, o_map, l_maps, l_map0, l_apps, l_app0, List.append_nil, jD, ix_tup, at_1, e2, biD, len_tup, decide_eq_true hl]
    rw [compL_map (g := fun _ => .bl true) fun x hx => by
      obtain ⟨w, hw, rfl⟩ := List.mem_map.mp hx
      simp only [ev_var, ev_cint, ev_cstr, ev_cbl, ev_cnon, ev_g, ev_bin, ev_neg, ev_not, ev_cmp, ev_chn, ev_chn3, ev_dst, ev_revT, ev_stp, ev_lix, ev_err, ev_srt, ev_wlk, ev_lgn, lstO_ok, ev_gf, ev_isl, ev_fld, ev_mth, ev_msp, ev_prp, ev_oln, ev_con0, ev_con1, ev_cmt, ev_oeq, ev_isp, ev_ccn, okO_ok, ev_cav, ev_cpm, ev_and, ev_or, ev_ite, ev_tup, ev_lst, ev_call, ev_bi, ev_isi, ev_idx, ev_slc, ev_rev, ev_lrng, ev_lrng1, ev_dnew, ev_cpy, ev_comp, mkTup_ok, l_lens, l_len0, Nat.reduceLeDiff, Nat.reduceAdd, evs, evo, evi, bnd_ok, sbd_ok, pur_some, wpe_ok, wps_nx, wps_rt, b_add, b_sub, c_lt, c_le, c_gt, c_ge, c_eq, c_ne, c_in, c_nin, c_is, c_isnot, l_get0, l_gets, l_set0, l_sets, o_map, l_maps, l_map0, l_apps, l_app0, List.append_nil, item, bindT, wipeE, is_word_ok]]
    simp only [ev_var, ev_cint, ev_cstr, ev_cbl, ev_cnon, ev_g, ev_bin, ev_neg, ev_not, ev_cmp, ev_chn, ev_chn3, ev_dst, ev_revT, ev_stp, ev_lix, ev_err, ev_srt, ev_wlk, ev_lgn, lstO_ok, ev_gf, ev_isl, ev_fld, ev_mth, ev_msp, ev_prp, ev_oln, ev_con0, ev_con1, ev_cmt, ev_oeq, ev_isp, ev_ccn, okO_ok, ev_cav, ev_cpm, ev_and, ev_or, ev_ite, ev_tup, ev_lst, ev_call, ev_bi, ev_isi, ev_idx, ev_slc, ev_rev, ev_lrng, ev_lrng1, ev_dnew, ev_cpy, ev_comp, mkTup_ok, l_lens, l_len0, Nat.reduceLeDiff, Nat.reduceAdd, evs, evo, evi, bnd_ok, sbd_ok, pur_some, wpe_ok, wps_nx, wps_rt, b_add, b_sub, c_lt, c_le, c_gt, c_ge, c_eq, c_ne, c_in, c_nin, c_is, c_isnot, l_get0, l_gets, l_set0, l_sets, o_map, l_maps, l_map0, l_apps, l_app0, List.append_nil, List.length_map, all_true, if_pos (fit3 ws.length (by omega)), and_self]
theorem need_job_ok {n : Nat} {m : Int} {ws : List Wd} {s : Sto} (h : JOk m ws) : cal GG (n + 4) i_need_job [jD m ws] s = some (.ok .non s) := by
  refine cal_pure Gi_need_job rfl rfl rfl ?_
  show WPS (ex _ _ _ [some (jD m ws)] s) _ _
  refine wps_seq (wps_if (b := false) (WPE.of_eq ?_) (fun z => absurd z (by decide)) fun _ => ?_)
  · simp only [ev_var, ev_cint, ev_cstr, ev_cbl, ev_cnon, ev_g, ev_bin, ev_neg, ev_not, ev_cmp, ev_chn, ev_chn3, ev_dst, ev_revT, ev_stp, ev_lix, ev_err, ev_srt, ev_wlk, ev_lgn, lstO_ok, ev_gf, ev_isl, ev_fld, ev_mth, ev_msp, ev_prp, ev_oln, ev_con0, ev_con1, ev_cmt, ev_oeq, ev_isp, ev_ccn, okO_ok, ev_cav, ev_cpm, ev_and, ev_or, ev_ite, ev_tup, ev_lst, ev_call, ev_bi, ev_isi, ev_idx, ev_slc, ev_rev, ev_lrng, ev_lrng1, ev_dnew, ev_cpy, ev_comp, mkTup_ok, l_lens, l_len0, Nat.reduceLeDiff, Nat.reduceAdd, evs, evo, evi, bnd_ok, sbd_ok, pur_some, wpe_ok, wps_nx, wps_rt, b_add, b_sub, c_lt, c_le, c_gt, c_ge, c_eq, c_ne, c_in, c_nin, c_is, c_isnot, l_get0, l_gets, l_set0, l_sets, o_map, l_maps, l_map0, l_apps, l_app0, List.append_nil, is_job_ok h, Bool.not_true]
  · exact wps_skip (wps_skip ⟨rfl, rfl⟩)
theorem need_pages_ok {n : Nat} {p most : Int} {s : Sto} (h : 0 ≤ p) (h2 : p ≤ most) : cal GG (n + 2) i_need_pages [.int p, .int most] s = some (.ok .non s) := by
  refine cal_pure Gi_need_pages rfl rfl rfl ?_
  show WPS (ex _ _ _ [some (.int p), some (.int most)] s) _ _
  refine wps_seq (wps_if (b := false) (WPE.of_eq ?_) (fun z => absurd z (by decide)) fun _ => ?_)
  · simp only [ev_var, ev_cint, ev_cstr, ev_cbl, ev_cnon, ev_g, ev_bin, ev_neg, ev_not, ev_cmp, ev_chn, ev_chn3, ev_dst, ev_revT, ev_stp, ev_lix, ev_err, ev_srt, ev_wlk, ev_lgn, lstO_ok, ev_gf, ev_isl, ev_fld, ev_mth, ev_msp, ev_prp, ev_oln, ev_con0, ev_con1, ev_cmt, ev_oeq, ev_isp, ev_ccn, okO_ok, ev_cav, ev_cpm, ev_and, ev_or, ev_ite, ev_tup, ev_lst, ev_call, ev_bi, ev_isi, ev_idx, ev_slc, ev_rev, ev_lrng, ev_lrng1, ev_dnew, ev_cpy, ev_comp, mkTup_ok, l_lens, l_len0, Nat.reduceLeDiff, Nat.reduceAdd, evs, evo, evi, bnd_ok, sbd_ok, pur_some, wpe_ok, wps_nx, wps_rt, b_add, b_sub, c_lt, c_le, c_gt, c_ge, c_eq, c_ne, c_in, c_nin, c_is, c_isnot, l_get0, l_gets, l_set0, l_sets, o_map, l_maps, l_map0, l_apps, l_app0, List.append_nil, is_integer_int, decide_eq_true h, decide_eq_true h2, Bool.and_self, Bool.not_true]
  · exact wps_skip (wps_skip ⟨rfl, rfl⟩)
end EV

set_option maxHeartbeats 4000000
/-! the draws out of a script -/
namespace EV
open PySem PySem.Spec PyProof.Rows L2
theorem rngL_map (a b : Int) : rngL a b = (List.range (b - a).toNat).map fun i => D.int (a + (i : Nat)) := rfl
theorem rng_get {a b : Int} {i : Nat} {x : D} (h : (rngL a b)[i]? = some x) : (i : Int) < b - a ∧ x = .int (a + (i : Nat)) := by
  rw [rngL_map, List.getElem?_map] at h
  cases e : (List.range (b - a).toNat)[i]? with
  | none =>
    rw [e] at h
    cases h
  | some j =>
    rw [e] at h
    obtain ⟨h1, h2⟩ := List.getElem?_eq_some_iff.mp e
    rw [List.getElem_range] at h2
    subst h2
    rw [List.length_range] at h1
    exact ⟨by omega, (Option.some.inj h).symm⟩
theorem rng_len (a b : Int) : (rngL a b).length = (b - a).toNat := by rw [rngL_map, List.length_map, List.length_range]
theorem cell_at_ok {n : Nat} {ns : List Int} {k : Nat} {s : Sto} : ∃ c : Int, cal GG (n + 1) i_l_cell_at [.scr ns, .int (k : Nat)] s = some (.ok (.int c) s) := by
  refine ⟨if h : k < ns.length then ns[k] else 0, cal_pure Gi_l_cell_at rfl rfl rfl ?_⟩
  show WPS (ex _ _ _ [some (.scr ns), some (.int (k : Nat))] s) _ _
  have hl : ∀ s, bi1 .len s (.scr ns) = some (.int (ns.length : Nat)) := fun s => rfl
  refine wps_seq (wps_if (b := decide (k < ns.length)) (WPE.of_eq ?_) (fun z => ?_) fun z => ?_)
  · simp only [ev_var, ev_cint, ev_cstr, ev_cbl, ev_cnon, ev_g, ev_bin, ev_neg, ev_not, ev_cmp, ev_chn, ev_chn3, ev_dst, ev_revT, ev_stp, ev_lix, ev_err, ev_srt, ev_wlk, ev_lgn, lstO_ok, ev_gf, ev_isl, ev_fld, ev_mth, ev_msp, ev_prp, ev_oln, ev_con0, ev_con1, ev_cmt, ev_oeq, ev_isp, ev_ccn, okO_ok, ev_cav, ev_cpm, ev_and, ev_or, ev_ite, ev_tup, ev_lst, ev_call, ev_bi, ev_isi, ev_idx, ev_slc, ev_rev, ev_lrng, ev_lrng1, ev_dnew, ev_cpy, ev_comp, mkTup_ok, l_lens, l_len0, Nat.reduceLeDiff, Nat.reduceAdd, evs, evo, evi, bnd_ok, sbd_ok, pur_some, wpe_ok, wps_nx, wps_rt, b_add, b_sub, c_lt, c_le, c_gt, c_ge, c_eq, c_ne, c_in, c_nin, c_is, c_isnot, l_get0, l_gets, l_set0, l_sets, o_map, l_maps, l_map0, l_apps, l_app0, List.append_nil, biD, hl, Int.ofNat_lt]
  · have z := of_decide_eq_true z
    refine wps_seq (wps_ret ?_)
    have e : ∀ s, idxD s (.scr ns) (.int (k : Nat)) = some (.int ns[k]) := fun s => by
      show (atI ns (k : Nat)).map D.int = _
      rw [atI_nat (List.getElem?_eq_getElem z)]
      rfl
    simp only [ev_var, ev_cint, ev_cstr, ev_cbl, ev_cnon, ev_g, ev_bin, ev_neg, ev_not, ev_cmp, ev_chn, ev_chn3, ev_dst, ev_revT, ev_stp, ev_lix, ev_err, ev_srt, ev_wlk, ev_lgn, lstO_ok, ev_gf, ev_isl, ev_fld, ev_mth, ev_msp, ev_prp, ev_oln, ev_con0, ev_con1, ev_cmt, ev_oeq, ev_isp, ev_ccn, okO_ok, ev_cav, ev_cpm, ev_and, ev_or, ev_ite, ev_tup, ev_lst, ev_call, ev_bi, ev_isi, ev_idx, ev_slc, ev_rev, ev_lrng, ev_lrng1, ev_dnew, ev_cpy, ev_comp, mkTup_ok, l_lens, l_len0, Nat.reduceLeDiff, Nat.reduceAdd, evs, evo, evi, bnd_ok, sbd_ok, pur_some, wpe_ok, wps_nx, wps_rt, b_add, b_sub, c_lt, c_le, c_gt, c_ge, c_eq, c_ne, c_in, c_nin, c_is, c_isnot, l_get0, l_gets, l_set0, l_sets, o_map, l_maps, l_map0, l_apps, l_app0, List.append_nil, e, dif_pos z, and_self]
  · have z := of_decide_eq_false z
    refine wps_skip (wps_seq (wps_ret ?_))
    simp only [ev_var, ev_cint, ev_cstr, ev_cbl, ev_cnon, ev_g, ev_bin, ev_neg, ev_not, ev_cmp, ev_chn, ev_chn3, ev_dst, ev_revT, ev_stp, ev_lix, ev_err, ev_srt, ev_wlk, ev_lgn, lstO_ok, ev_gf, ev_isl, ev_fld, ev_mth, ev_msp, ev_prp, ev_oln, ev_con0, ev_con1, ev_cmt, ev_oeq, ev_isp, ev_ccn, okO_ok, ev_cav, ev_cpm, ev_and, ev_or, ev_ite, ev_tup, ev_lst, ev_call, ev_bi, ev_isi, ev_idx, ev_slc, ev_rev, ev_lrng, ev_lrng1, ev_dnew, ev_cpy, ev_comp, mkTup_ok, l_lens, l_len0, Nat.reduceLeDiff, Nat.reduceAdd, evs, evo, evi, bnd_ok, sbd_ok, pur_some, wpe_ok, wps_nx, wps_rt, b_add, b_sub, c_lt, c_le, c_gt, c_ge, c_eq, c_ne, c_in, c_nin, c_is, c_isnot, l_get0, l_gets, l_set0, l_sets, o_map, l_maps, l_map0, l_apps, l_app0, List.append_nil, dif_neg z, and_self]
def drawM : Int := 2305843009213693951
theorem app_here {L : Nat} {s : Sto} {xs : List D} {d : D} (hL : L ≤ s.length) (hl : xs.length < sizeLine) : appD L (.loc s.length) d (s ++ [.lst xs]) = some (s ++ [.lst (xs ++ [d])]) := by
  have e : (s ++ [Cell.lst xs])[s.length]? = some (.lst xs) := by simp
  simp only [appD, e, if_pos hl, wr, if_pos (Or.inl hL)]
  simp
theorem isLst_here {s : Sto} {xs : List D} : isLst (s ++ [Cell.lst xs]) (.loc s.length) = true := by simp [isLst]
theorem ints_noloc' (xs : List Int) : nolocs (xs.map .int) = true := by
  induction xs with
  | nil => rfl
  | cons x r ih => simp [nolocs, noloc, ih]
theorem draws_ok {n : Nat} {c : Int} {s : Sto} : ∃ ds : List Int, ds.length = 400 ∧ cal GG (n + 1) i_l_draws [.int c, .int 400, .int 1000] s = some (.ok (.lst (ds.map .int)) s) := by
  suffices h : WPE (cal GG (n + 1) i_l_draws [.int c, .int 400, .int 1000] s) fun r s1 => ∃ ds : List Int, ds.length = 400 ∧ r = .lst (ds.map .int) ∧ s1 = s by
    obtain ⟨r, s1, e, ds, h1, rfl, rfl⟩ := h
    exact ⟨ds, h1, e⟩
  refine cal_wp Gi_l_draws rfl ?_
  show WPS (ex _ _ _ [some (.int c), some (.int 400), some (.int 1000), none, none, none, none] s) _ _
  refine wps_seq (wps_set ?_)
  simp only [ev_var, ev_cint, ev_cstr, ev_cbl, ev_cnon, ev_g, ev_bin, ev_neg, ev_not, ev_cmp, ev_chn, ev_chn3, ev_dst, ev_revT, ev_stp, ev_lix, ev_err, ev_srt, ev_wlk, ev_lgn, lstO_ok, ev_gf, ev_isl, ev_fld, ev_mth, ev_msp, ev_prp, ev_oln, ev_con0, ev_con1, ev_cmt, ev_oeq, ev_isp, ev_ccn, okO_ok, ev_cav, ev_cpm, ev_and, ev_or, ev_ite, ev_tup, ev_lst, ev_call, ev_bi, ev_isi, ev_idx, ev_slc, ev_rev, ev_lrng, ev_lrng1, ev_dnew, ev_cpy, ev_comp, mkTup_ok, l_lens, l_len0, Nat.reduceLeDiff, Nat.reduceAdd, evs, evo, evi, bnd_ok, sbd_ok, pur_some, wpe_ok, wps_nx, wps_rt, b_add, b_sub, c_lt, c_le, c_gt, c_ge, c_eq, c_ne, c_in, c_nin, c_is, c_isnot, l_get0, l_gets, l_set0, l_sets, o_map, l_maps, l_map0, l_apps, l_app0, List.append_nil, fresh, List.length_nil, if_pos (fit3 0 (by decide)), if_true]
  have hp : CPow 10 18 := ⟨by decide, by decide, by decide⟩
  have hc : ∀ b : Bool, CMul c (if b then 1 else 0) := fun b => cmul_r (by cases b <;> decide)
  have hm : (2305843009213693951 : Int) ≠ 0 := by decide
  refine wps_seq (wps_set ?_)
  simp only [ev_var, ev_cint, ev_cstr, ev_cbl, ev_cnon, ev_g, ev_bin, ev_neg, ev_not, ev_cmp, ev_chn, ev_chn3, ev_dst, ev_revT, ev_stp, ev_lix, ev_err, ev_srt, ev_wlk, ev_lgn, lstO_ok, ev_gf, ev_isl, ev_fld, ev_mth, ev_msp, ev_prp, ev_oln, ev_con0, ev_con1, ev_cmt, ev_oeq, ev_isp, ev_ccn, okO_ok, ev_cav, ev_cpm, ev_and, ev_or, ev_ite, ev_tup, ev_lst, ev_call, ev_bi, ev_isi, ev_idx, ev_slc, ev_rev, ev_lrng, ev_lrng1, ev_dnew, ev_cpy, ev_comp, mkTup_ok, l_lens, l_len0, Nat.reduceLeDiff, Nat.reduceAdd, evs, evo, evi, bnd_ok, sbd_ok, pur_some, wpe_ok, wps_nx, wps_rt, b_add, b_sub, c_lt, c_le, c_gt, c_ge, c_eq, c_ne, c_in, c_nin, c_is, c_isnot, l_get0, l_gets, l_set0, l_sets, o_map, l_maps, l_map0, l_apps, l_app0, List.append_nil, b_pow hp, biD, bi1, intD, b_mul (hc _)]
  refine wps_seq (wps_set ?_)
  simp only [ev_var, ev_cint, ev_cstr, ev_cbl, ev_cnon, ev_g, ev_bin, ev_neg, ev_not, ev_cmp, ev_chn, ev_chn3, ev_dst, ev_revT, ev_stp, ev_lix, ev_err, ev_srt, ev_wlk, ev_lgn, lstO_ok, ev_gf, ev_isl, ev_fld, ev_mth, ev_msp, ev_prp, ev_oln, ev_con0, ev_con1, ev_cmt, ev_oeq, ev_isp, ev_ccn, okO_ok, ev_cav, ev_cpm, ev_and, ev_or, ev_ite, ev_tup, ev_lst, ev_call, ev_bi, ev_isi, ev_idx, ev_slc, ev_rev, ev_lrng, ev_lrng1, ev_dnew, ev_cpy, ev_comp, mkTup_ok, l_lens, l_len0, Nat.reduceLeDiff, Nat.reduceAdd, evs, evo, evi, bnd_ok, sbd_ok, pur_some, wpe_ok, wps_nx, wps_rt, b_add, b_sub, c_lt, c_le, c_gt, c_ge, c_eq, c_ne, c_in, c_nin, c_is, c_isnot, l_get0, l_gets, l_set0, l_sets, o_map, l_maps, l_map0, l_apps, l_app0, List.append_nil, b_mod hm]
  refine wps_seq (wps_for (rngL 0 403) (fun i ρ s1 => ∃ (r st : Int) (y : Option D) (ds : List Int), ρ = [some (.int c), some (.int 400), some (.int 1000), some (.loc s.length), some (.int r), some (.int st), y] ∧ s1 = s ++ [.lst (ds.map .int)] ∧ ds.length = i - 3 ∧ 0 ≤ st ∧ st < drawM) ?_ ?_ ?_)
  · refine WPE.mk (a := rngL 0 403) (s := s ++ [.lst []]) ?_ ⟨rfl, _, _, none, [], rfl, rfl, rfl, Int.fmod_nonneg_of_pos _ (by decide), Int.fmod_lt_of_pos _ (by decide)⟩
    simp only [ev_var, ev_cint, ev_cstr, ev_cbl, ev_cnon, ev_g, ev_bin, ev_neg, ev_not, ev_cmp, ev_chn, ev_chn3, ev_dst, ev_revT, ev_stp, ev_lix, ev_err, ev_srt, ev_wlk, ev_lgn, lstO_ok, ev_gf, ev_isl, ev_fld, ev_mth, ev_msp, ev_prp, ev_oln, ev_con0, ev_con1, ev_cmt, ev_oeq, ev_isp, ev_ccn, okO_ok, ev_cav, ev_cpm, ev_and, ev_or, ev_ite, ev_tup, ev_lst, ev_call, ev_bi, ev_isi, ev_idx, ev_slc, ev_rev, ev_lrng, ev_lrng1, ev_dnew, ev_cpy, ev_comp, mkTup_ok, l_lens, l_len0, Nat.reduceLeDiff, Nat.reduceAdd, evs, evo, evi, bnd_ok, sbd_ok, pur_some, wpe_ok, wps_nx, wps_rt, b_add, b_sub, c_lt, c_le, c_gt, c_ge, c_eq, c_ne, c_in, c_nin, c_is, c_isnot, l_get0, l_gets, l_set0, l_sets, o_map, l_maps, l_map0, l_apps, l_app0, List.append_nil]
    rfl
  · rintro i x ρ s1 hx ⟨r, st, y, ds, rfl, rfl, hl, h0, h1⟩
    obtain ⟨hi, rfl⟩ := rng_get hx
    rw [Int.zero_add]
    refine ⟨_, rfl, ?_⟩
    have hM : drawM = 2305843009213693951 := rfl
    have e1 : CMul st st := cmul_l (by omega)
    have e2 : CMul 48271 st := cmul_l (by decide)
    have hs : (1000 : Int) ≠ 0 := by decide
    have hd : CDivN r 1000 := ⟨by decide, by decide⟩
    refine wps_seq (wps_set ?_)
    simp only [ev_var, ev_cint, ev_cstr, ev_cbl, ev_cnon, ev_g, ev_bin, ev_neg, ev_not, ev_cmp, ev_chn, ev_chn3, ev_dst, ev_revT, ev_stp, ev_lix, ev_err, ev_srt, ev_wlk, ev_lgn, lstO_ok, ev_gf, ev_isl, ev_fld, ev_mth, ev_msp, ev_prp, ev_oln, ev_con0, ev_con1, ev_cmt, ev_oeq, ev_isp, ev_ccn, okO_ok, ev_cav, ev_cpm, ev_and, ev_or, ev_ite, ev_tup, ev_lst, ev_call, ev_bi, ev_isi, ev_idx, ev_slc, ev_rev, ev_lrng, ev_lrng1, ev_dnew, ev_cpy, ev_comp, mkTup_ok, l_lens, l_len0, Nat.reduceLeDiff, Nat.reduceAdd, evs, evo, evi, bnd_ok, sbd_ok, pur_some, wpe_ok, wps_nx, wps_rt, b_add, b_sub, c_lt, c_le, c_gt, c_ge, c_eq, c_ne, c_in, c_nin, c_is, c_isnot, l_get0, l_gets, l_set0, l_sets, o_map, l_maps, l_map0, l_apps, l_app0, List.append_nil, b_mul e1, b_mul e2, b_mod hm]
    obtain ⟨st', hst⟩ : ∃ st', st' = (st * st + 48271 * st + (i : Nat) + 1).fmod 2305843009213693951 := ⟨_, rfl⟩
    rw [← hst]
    have g0 : 0 ≤ st' := by rw [hst]; exact Int.fmod_nonneg_of_pos _ (by decide)
    have g1 : st' < drawM := by rw [hst]; exact Int.fmod_lt_of_pos _ (by decide)
    have hd2 : CDivN st' 4096 := ⟨by decide, by decide⟩
    have happ : ∀ d : D, appD s.length (.loc s.length) d (s ++ [.lst (ds.map .int)]) = some (s ++ [.lst (ds.map .int ++ [d])]) := fun d => app_here (Nat.le_refl _) (by
      rw [List.length_map]
      have : sizeLine = 16777216 := rfl
      omega)
    refine wps_seq (wps_if (b := decide (2 < (i : Int)) && decide (0 < r)) (WPE.of_eq ?_) (fun z => ?_) fun z => ?_)
    · by_cases q : (2 : Int) < (i : Nat)
      · simp only [ev_var, ev_cint, ev_cstr, ev_cbl, ev_cnon, ev_g, ev_bin, ev_neg, ev_not, ev_cmp, ev_chn, ev_chn3, ev_dst, ev_revT, ev_stp, ev_lix, ev_err, ev_srt, ev_wlk, ev_lgn, lstO_ok, ev_gf, ev_isl, ev_fld, ev_mth, ev_msp, ev_prp, ev_oln, ev_con0, ev_con1, ev_cmt, ev_oeq, ev_isp, ev_ccn, okO_ok, ev_cav, ev_cpm, ev_and, ev_or, ev_ite, ev_tup, ev_lst, ev_call, ev_bi, ev_isi, ev_idx, ev_slc, ev_rev, ev_lrng, ev_lrng1, ev_dnew, ev_cpy, ev_comp, mkTup_ok, l_lens, l_len0, Nat.reduceLeDiff, Nat.reduceAdd, evs, evo, evi, bnd_ok, sbd_ok, pur_some, wpe_ok, wps_nx, wps_rt, b_add, b_sub, c_lt, c_le, c_gt, c_ge, c_eq, c_ne, c_in, c_nin, c_is, c_isnot, l_get0, l_gets, l_set0, l_sets, o_map, l_maps, l_map0, l_apps, l_app0, List.append_nil, decide_eq_true q, Bool.true_and]
      · simp only [ev_var, ev_cint, ev_cstr, ev_cbl, ev_cnon, ev_g, ev_bin, ev_neg, ev_not, ev_cmp, ev_chn, ev_chn3, ev_dst, ev_revT, ev_stp, ev_lix, ev_err, ev_srt, ev_wlk, ev_lgn, lstO_ok, ev_gf, ev_isl, ev_fld, ev_mth, ev_msp, ev_prp, ev_oln, ev_con0, ev_con1, ev_cmt, ev_oeq, ev_isp, ev_ccn, okO_ok, ev_cav, ev_cpm, ev_and, ev_or, ev_ite, ev_tup, ev_lst, ev_call, ev_bi, ev_isi, ev_idx, ev_slc, ev_rev, ev_lrng, ev_lrng1, ev_dnew, ev_cpy, ev_comp, mkTup_ok, l_lens, l_len0, Nat.reduceLeDiff, Nat.reduceAdd, evs, evo, evi, bnd_ok, sbd_ok, pur_some, wpe_ok, wps_nx, wps_rt, b_add, b_sub, c_lt, c_le, c_gt, c_ge, c_eq, c_ne, c_in, c_nin, c_is, c_isnot, l_get0, l_gets, l_set0, l_sets, o_map, l_maps, l_map0, l_apps, l_app0, List.append_nil, decide_eq_false q, Bool.false_and]
    · rw [Bool.and_eq_true] at z
      have z1 := of_decide_eq_true z.1
      refine wps_seq (wps_app ?_)
      simp only [ev_var, ev_cint, ev_cstr, ev_cbl, ev_cnon, ev_g, ev_bin, ev_neg, ev_not, ev_cmp, ev_chn, ev_chn3, ev_dst, ev_revT, ev_stp, ev_lix, ev_err, ev_srt, ev_wlk, ev_lgn, lstO_ok, ev_gf, ev_isl, ev_fld, ev_mth, ev_msp, ev_prp, ev_oln, ev_con0, ev_con1, ev_cmt, ev_oeq, ev_isp, ev_ccn, okO_ok, ev_cav, ev_cpm, ev_and, ev_or, ev_ite, ev_tup, ev_lst, ev_call, ev_bi, ev_isi, ev_idx, ev_slc, ev_rev, ev_lrng, ev_lrng1, ev_dnew, ev_cpy, ev_comp, mkTup_ok, l_lens, l_len0, Nat.reduceLeDiff, Nat.reduceAdd, evs, evo, evi, bnd_ok, sbd_ok, pur_some, wpe_ok, wps_nx, wps_rt, b_add, b_sub, c_lt, c_le, c_gt, c_ge, c_eq, c_ne, c_in, c_nin, c_is, c_isnot, l_get0, l_gets, l_set0, l_sets, o_map, l_maps, l_map0, l_apps, l_app0, List.append_nil, isLst_here, b_mod hs, true_and]
      refine ⟨_, happ _, ?_⟩
      refine wps_seq (wps_set ?_)
      simp only [ev_var, ev_cint, ev_cstr, ev_cbl, ev_cnon, ev_g, ev_bin, ev_neg, ev_not, ev_cmp, ev_chn, ev_chn3, ev_dst, ev_revT, ev_stp, ev_lix, ev_err, ev_srt, ev_wlk, ev_lgn, lstO_ok, ev_gf, ev_isl, ev_fld, ev_mth, ev_msp, ev_prp, ev_oln, ev_con0, ev_con1, ev_cmt, ev_oeq, ev_isp, ev_ccn, okO_ok, ev_cav, ev_cpm, ev_and, ev_or, ev_ite, ev_tup, ev_lst, ev_call, ev_bi, ev_isi, ev_idx, ev_slc, ev_rev, ev_lrng, ev_lrng1, ev_dnew, ev_cpy, ev_comp, mkTup_ok, l_lens, l_len0, Nat.reduceLeDiff, Nat.reduceAdd, evs, evo, evi, bnd_ok, sbd_ok, pur_some, wpe_ok, wps_nx, wps_rt, b_add, b_sub, c_lt, c_le, c_gt, c_ge, c_eq, c_ne, c_in, c_nin, c_is, c_isnot, l_get0, l_gets, l_set0, l_sets, o_map, l_maps, l_map0, l_apps, l_app0, List.append_nil, b_fdiv hd]
      refine wps_skip (wps_skip ⟨r.fdiv 1000, st', _, ds ++ [r.fmod 1000], rfl, by rw [List.map_append]; rfl, ?_, g0, g1⟩)
      rw [List.length_append, List.length_singleton]
      omega
    · refine wps_seq (wps_if (b := decide (2 < (i : Int))) (WPE.of_eq ?_) (fun q => ?_) fun q => ?_)
      · simp only [ev_var, ev_cint, ev_cstr, ev_cbl, ev_cnon, ev_g, ev_bin, ev_neg, ev_not, ev_cmp, ev_chn, ev_chn3, ev_dst, ev_revT, ev_stp, ev_lix, ev_err, ev_srt, ev_wlk, ev_lgn, lstO_ok, ev_gf, ev_isl, ev_fld, ev_mth, ev_msp, ev_prp, ev_oln, ev_con0, ev_con1, ev_cmt, ev_oeq, ev_isp, ev_ccn, okO_ok, ev_cav, ev_cpm, ev_and, ev_or, ev_ite, ev_tup, ev_lst, ev_call, ev_bi, ev_isi, ev_idx, ev_slc, ev_rev, ev_lrng, ev_lrng1, ev_dnew, ev_cpy, ev_comp, mkTup_ok, l_lens, l_len0, Nat.reduceLeDiff, Nat.reduceAdd, evs, evo, evi, bnd_ok, sbd_ok, pur_some, wpe_ok, wps_nx, wps_rt, b_add, b_sub, c_lt, c_le, c_gt, c_ge, c_eq, c_ne, c_in, c_nin, c_is, c_isnot, l_get0, l_gets, l_set0, l_sets, o_map, l_maps, l_map0, l_apps, l_app0, List.append_nil]
      · have q := of_decide_eq_true q
        refine wps_seq (wps_app ?_)
        simp only [ev_var, ev_cint, ev_cstr, ev_cbl, ev_cnon, ev_g, ev_bin, ev_neg, ev_not, ev_cmp, ev_chn, ev_chn3, ev_dst, ev_revT, ev_stp, ev_lix, ev_err, ev_srt, ev_wlk, ev_lgn, lstO_ok, ev_gf, ev_isl, ev_fld, ev_mth, ev_msp, ev_prp, ev_oln, ev_con0, ev_con1, ev_cmt, ev_oeq, ev_isp, ev_ccn, okO_ok, ev_cav, ev_cpm, ev_and, ev_or, ev_ite, ev_tup, ev_lst, ev_call, ev_bi, ev_isi, ev_idx, ev_slc, ev_rev, ev_lrng, ev_lrng1, ev_dnew, ev_cpy, ev_comp, mkTup_ok, l_lens, l_len0, Nat.reduceLeDiff, Nat.reduceAdd, evs, evo, evi, bnd_ok, sbd_ok, pur_some, wpe_ok, wps_nx, wps_rt, b_add, b_sub, c_lt, c_le, c_gt, c_ge, c_eq, c_ne, c_in, c_nin, c_is, c_isnot, l_get0, l_gets, l_set0, l_sets, o_map, l_maps, l_map0, l_apps, l_app0, List.append_nil, isLst_here, b_fdiv hd2, b_mod hs, true_and]
        refine ⟨_, happ _, ?_⟩
        refine wps_skip (wps_skip (wps_skip ⟨r, st', _, ds ++ [(st'.fdiv 4096).fmod 1000], rfl, by rw [List.map_append]; rfl, ?_, g0, g1⟩))
        rw [List.length_append, List.length_singleton]
        omega
      · have q := of_decide_eq_false q
        refine wps_skip (wps_skip (wps_skip ⟨r, st', _, ds, rfl, rfl, ?_, g0, g1⟩))
        omega
  · rintro ρ s1 ⟨r, st, y, ds, rfl, rfl, hl, h0, h1⟩
    refine wps_seq (wps_ret ?_)
    simp only [ev_var, ev_cint, ev_cstr, ev_cbl, ev_cnon, ev_g, ev_bin, ev_neg, ev_not, ev_cmp, ev_chn, ev_chn3, ev_dst, ev_revT, ev_stp, ev_lix, ev_err, ev_srt, ev_wlk, ev_lgn, lstO_ok, ev_gf, ev_isl, ev_fld, ev_mth, ev_msp, ev_prp, ev_oln, ev_con0, ev_con1, ev_cmt, ev_oeq, ev_isp, ev_ccn, okO_ok, ev_cav, ev_cpm, ev_and, ev_or, ev_ite, ev_tup, ev_lst, ev_call, ev_bi, ev_isi, ev_idx, ev_slc, ev_rev, ev_lrng, ev_lrng1, ev_dnew, ev_cpy, ev_comp, mkTup_ok, l_lens, l_len0, Nat.reduceLeDiff, Nat.reduceAdd, evs, evo, evi, bnd_ok, sbd_ok, pur_some, wpe_ok, wps_nx, wps_rt, b_add, b_sub, c_lt, c_le, c_gt, c_ge, c_eq, c_ne, c_in, c_nin, c_is, c_isnot, l_get0, l_gets, l_set0, l_sets, o_map, l_maps, l_map0, l_apps, l_app0, List.append_nil]
    refine WPE.mk (a := .lst (ds.map .int)) (s := s) (fin_list (Nat.le_refl _) (by simp) (ints_noloc' ds) (by simp)) ⟨ds, ?_, rfl, rfl⟩
    rw [hl, rng_len]
    decide
end EV

set_option maxHeartbeats 4000000
/-! bags -/
namespace EV
open PySem PySem.Spec PyProof.Rows L2
def IsBag (s : Sto) (p : Nat) : Prop := ∃ (ds : List Int) (i : Int), ds.length = 400 ∧ s[p]? = some (.lst [.lst (ds.map .int), .int i])
def Bags (k : Nat) (s : Sto) : Prop := ∀ p < k, IsBag s p
/-- the bags below k were drawn from, all else stands -/
structure Kb (k : Nat) (s s' : Sto) : Prop where
  len : s'.length = s.length
  out : ∀ q, k ≤ q → s'[q]? = s[q]?
  bag : Bags k s'
theorem Kb.refl {k : Nat} {s : Sto} (h : Bags k s) : Kb k s s := ⟨rfl, fun _ _ => rfl, h⟩
theorem Kb.trans {k : Nat} {s s1 s2 : Sto} (a : Kb k s s1) (b : Kb k s1 s2) : Kb k s s2 := ⟨b.len.trans a.len, fun q hq => (b.out q hq).trans (a.out q hq), b.bag⟩
theorem Bags.le {k : Nat} {s : Sto} (h : Bags k s) : k ≤ s.length := by
  rcases Nat.eq_zero_or_pos k with z | z
  · omega
  · obtain ⟨ds, i, _, e⟩ := h (k - 1) (by omega)
    have := (List.getElem?_eq_some_iff.mp e).1
    omega
theorem take_ok {n k p : Nat} {many : Int} {s : Sto} (hb : Bags k s) (hp : p < k) (hm : 0 < many) : ∃ (r : Int) (s' : Sto), cal GG (n + 1) i_l_take [.loc p, .int many] s = some (.ok (.int r) s') ∧ 0 ≤ r ∧ r < many ∧ Kb k s s' := by
  obtain ⟨ds, i, hl, e⟩ := hb p hp
  have hpl : p < s.length := (List.getElem?_eq_some_iff.mp e).1
  obtain ⟨s', hs'⟩ : ∃ s', s' = s.set p (.lst [.lst (ds.map .int), .int (i + 1)]) := ⟨_, rfl⟩
  have e' : s'[p]? = some (.lst [.lst (ds.map .int), .int (i + 1)]) := by rw [hs', List.getElem?_set_self hpl]
  have hlen : s'.length = s.length := by rw [hs', List.length_set]
  have hkb : Kb k s s' := ⟨hlen, fun q hq => by rw [hs', List.getElem?_set_ne (by omega)], fun q hq => by
    by_cases h : p = q
    · subst h
      exact ⟨ds, i + 1, hl, e'⟩
    · obtain ⟨ds', i', h1, h2⟩ := hb q hq
      exact ⟨ds', i', h1, by rw [hs', List.getElem?_set_ne h]; exact h2⟩⟩
  suffices h : WPE (cal GG (n + 1) i_l_take [.loc p, .int many] s) fun r s1 => ∃ v, r = .int v ∧ 0 ≤ v ∧ v < many ∧ s1 = s' by
    obtain ⟨r, s1, e, v, rfl, h1, h2, rfl⟩ := h
    exact ⟨v, s1, e, h1, h2, hkb⟩
  refine cal_wp Gi_l_take rfl ?_
  show WPS (ex _ _ _ [some (.loc p), some (.int many)] s) _ _
  have d0 : deref s (.loc p) = .lst [.lst (ds.map .int), .int i] := by simp only [deref, e]
  have d1 : deref s' (.loc p) = .lst [.lst (ds.map .int), .int (i + 1)] := by simp only [deref, e']
  have i0 : ∀ j, idxD s (.loc p) (.int j) = atI [.lst (ds.map .int), .int i] j := fun j => by simp only [idxD, d0]
  have i1 : ∀ j, idxD s' (.loc p) (.int j) = atI [.lst (ds.map .int), .int (i + 1)] j := fun j => by simp only [idxD, d1]
  have hat1 : ∀ (a b : D), atI [a, b] (1 : Int) = some b := fun _ _ => rfl
  have hat0 : ∀ (a b : D), atI [a, b] (0 : Int) = some a := fun _ _ => rfl
  refine wps_seq (wps_sto ?_)
  simp only [ev_var, ev_cint, ev_cstr, ev_cbl, ev_cnon, ev_g, ev_bin, ev_neg, ev_not, ev_cmp, ev_chn, ev_chn3, ev_dst, ev_revT, ev_stp, ev_lix, ev_err, ev_srt, ev_wlk, ev_lgn, lstO_ok, ev_gf, ev_isl, ev_fld, ev_mth, ev_msp, ev_prp, ev_oln, ev_con0, ev_con1, ev_cmt, ev_oeq, ev_isp, ev_ccn, okO_ok, ev_cav, ev_cpm, ev_and, ev_or, ev_ite, ev_tup, ev_lst, ev_call, ev_bi, ev_isi, ev_idx, ev_slc, ev_rev, ev_lrng, ev_lrng1, ev_dnew, ev_cpy, ev_comp, mkTup_ok, l_lens, l_len0, Nat.reduceLeDiff, Nat.reduceAdd, evs, evo, evi, bnd_ok, sbd_ok, pur_some, wpe_ok, wps_nx, wps_rt, b_add, b_sub, c_lt, c_le, c_gt, c_ge, c_eq, c_ne, c_in, c_nin, c_is, c_isnot, l_get0, l_gets, l_set0, l_sets, o_map, l_maps, l_map0, l_apps, l_app0, List.append_nil, i0, hat1]
  refine ⟨s', ?_, ?_⟩
  · simp only [stoD, e]
    rw [show ixN [D.lst (ds.map .int), D.int i].length 1 = some 1 from rfl]
    simp only [wr, noloc, or_true, if_true, hs']
    rfl
  · refine wps_seq (wps_ret ?_)
    obtain ⟨x, hx, hr⟩ : ∃ x, ∃ _ : 0 ≤ (i + 1).fmod 400 ∧ (i + 1).fmod 400 < 400, atI (ds.map D.int) ((i + 1).fmod 400) = some (.int x) := by
      have g0 : 0 ≤ (i + 1).fmod 400 := Int.fmod_nonneg_of_pos _ (by decide)
      have g1 : (i + 1).fmod 400 < 400 := Int.fmod_lt_of_pos _ (by decide)
      have hj : ((i + 1).fmod 400).toNat < ds.length := by omega
      refine ⟨ds[((i + 1).fmod 400).toNat], ⟨g0, g1⟩, ?_⟩
      rw [atI_nat' g0 (by rw [List.length_map]; omega), List.getElem?_map, List.getElem?_eq_getElem hj]
      rfl
    have l1 : ∀ s, biD .len s [.lst (ds.map .int)] = some (.int 400) := fun s => by
      show some (D.int ((ds.map D.int).length : Nat)) = _
      rw [List.length_map, hl]
      rfl
    have n400 : (400 : Int) ≠ 0 := by decide
    have nm : many ≠ 0 := by omega
    simp only [ev_var, ev_cint, ev_cstr, ev_cbl, ev_cnon, ev_g, ev_bin, ev_neg, ev_not, ev_cmp, ev_chn, ev_chn3, ev_dst, ev_revT, ev_stp, ev_lix, ev_err, ev_srt, ev_wlk, ev_lgn, lstO_ok, ev_gf, ev_isl, ev_fld, ev_mth, ev_msp, ev_prp, ev_oln, ev_con0, ev_con1, ev_cmt, ev_oeq, ev_isp, ev_ccn, okO_ok, ev_cav, ev_cpm, ev_and, ev_or, ev_ite, ev_tup, ev_lst, ev_call, ev_bi, ev_isi, ev_idx, ev_slc, ev_rev, ev_lrng, ev_lrng1, ev_dnew, ev_cpy, ev_comp, mkTup_ok, l_lens, l_len0, Nat.reduceLeDiff, Nat.reduceAdd, evs, evo, evi, bnd_ok, sbd_ok, pur_some, wpe_ok, wps_nx, wps_rt, b_add, b_sub, c_lt, c_le, c_gt, c_ge, c_eq, c_ne, c_in, c_nin, c_is, c_isnot, l_get0, l_gets, l_set0, l_sets, o_map, l_maps, l_map0, l_apps, l_app0, List.append_nil, i1, hat0, hat1, l1, b_mod n400, ix_lst, hr, b_mod nm]
    refine WPE.mk (fin_keep rfl ?_) ⟨_, rfl, Int.fmod_nonneg_of_pos _ hm, Int.fmod_lt_of_pos _ hm, rfl⟩
    rw [← hlen, List.take_length]
theorem w7 (r : Int) (h0 : 0 ≤ r) (h : r < 7) : ∃ w : Wd, ∀ s, idxD s (.lst [.str "cut", .str "evens", .str "half", .str "odds", .str "rest", .str "skip", .str "turn"]) (.int r) = some (wD w) := by
  rcases (by omega : r = 0 ∨ r = 1 ∨ r = 2 ∨ r = 3 ∨ r = 4 ∨ r = 5 ∨ r = 6) with rfl | rfl | rfl | rfl | rfl | rfl | rfl
  · exact ⟨.cut, fun s => rfl⟩
  · exact ⟨.evens, fun s => rfl⟩
  · exact ⟨.half, fun s => rfl⟩
  · exact ⟨.odds, fun s => rfl⟩
  · exact ⟨.rest, fun s => rfl⟩
  · exact ⟨.skip, fun s => rfl⟩
  · exact ⟨.turn, fun s => rfl⟩
theorem w3 (a b : Wd) (r : Int) (h0 : 0 ≤ r) (h : r < 3) : ∃ w : Wd, ∀ s, idxD s (.lst [wD a, wD b, .str "turn"]) (.int r) = some (wD w) := by
  rcases (by omega : r = 0 ∨ r = 1 ∨ r = 2) with rfl | rfl | rfl
  · exact ⟨a, fun s => rfl⟩
  · exact ⟨b, fun s => rfl⟩
  · exact ⟨.turn, fun s => rfl⟩
theorem fresh_f {xs : List D} {s : Sto} (h : xs.length ≤ 1000) : fresh false xs s = some (.ok (.lst xs) s) := by
  unfold fresh
  rw [if_pos (fit3 _ h)]
  rfl
theorem words_ok {n k p : Nat} {most : Int} {s : Sto} (hb : Bags k s) (hp : p < k) (hm : 0 ≤ most) (hm2 : most ≤ 100) : ∃ (ws : List Wd) (s' : Sto), cal GG (n + 2) i_l_words [.loc p, .int most] s = some (.ok (.tup (ws.map wD)) s') ∧ (ws.length : Int) ≤ most ∧ Kb k s s' := by
  suffices h : WPE (cal GG (n + 2) i_l_words [.loc p, .int most] s) fun r s1 => ∃ ws : List Wd, r = .tup (ws.map wD) ∧ (ws.length : Int) ≤ most ∧ Kb k s s1 by
    obtain ⟨r, s1, e, ws, rfl, h1, h2⟩ := h
    exact ⟨ws, s1, e, h1, h2⟩
  refine cal_wp Gi_l_words rfl ?_
  show WPS (ex _ _ _ [some (.loc p), some (.int most), none, none, none, none, none] s) _ _
  refine wps_seq (wps_set ?_)
  simp only [ev_var, ev_cint, ev_cstr, ev_cbl, ev_cnon, ev_g, ev_bin, ev_neg, ev_not, ev_cmp, ev_chn, ev_chn3, ev_dst, ev_revT, ev_stp, ev_lix, ev_err, ev_srt, ev_wlk, ev_lgn, lstO_ok, ev_gf, ev_isl, ev_fld, ev_mth, ev_msp, ev_prp, ev_oln, ev_con0, ev_con1, ev_cmt, ev_oeq, ev_isp, ev_ccn, okO_ok, ev_cav, ev_cpm, ev_and, ev_or, ev_ite, ev_tup, ev_lst, ev_call, ev_bi, ev_isi, ev_idx, ev_slc, ev_rev, ev_lrng, ev_lrng1, ev_dnew, ev_cpy, ev_comp, mkTup_ok, l_lens, l_len0, Nat.reduceLeDiff, Nat.reduceAdd, evs, evo, evi, bnd_ok, sbd_ok, pur_some, wpe_ok, wps_nx, wps_rt, b_add, b_sub, c_lt, c_le, c_gt, c_ge, c_eq, c_ne, c_in, c_nin, c_is, c_isnot, l_get0, l_gets, l_set0, l_sets, o_map, l_maps, l_map0, l_apps, l_app0, List.append_nil]
  rw [fresh_f (by simp)]
  simp only [ev_var, ev_cint, ev_cstr, ev_cbl, ev_cnon, ev_g, ev_bin, ev_neg, ev_not, ev_cmp, ev_chn, ev_chn3, ev_dst, ev_revT, ev_stp, ev_lix, ev_err, ev_srt, ev_wlk, ev_lgn, lstO_ok, ev_gf, ev_isl, ev_fld, ev_mth, ev_msp, ev_prp, ev_oln, ev_con0, ev_con1, ev_cmt, ev_oeq, ev_isp, ev_ccn, okO_ok, ev_cav, ev_cpm, ev_and, ev_or, ev_ite, ev_tup, ev_lst, ev_call, ev_bi, ev_isi, ev_idx, ev_slc, ev_rev, ev_lrng, ev_lrng1, ev_dnew, ev_cpy, ev_comp, mkTup_ok, l_lens, l_len0, Nat.reduceLeDiff, Nat.reduceAdd, evs, evo, evi, bnd_ok, sbd_ok, pur_some, wpe_ok, wps_nx, wps_rt, b_add, b_sub, c_lt, c_le, c_gt, c_ge, c_eq, c_ne, c_in, c_nin, c_is, c_isnot, l_get0, l_gets, l_set0, l_sets, o_map, l_maps, l_map0, l_apps, l_app0, List.append_nil]
  obtain ⟨r1, s1, e1, a1, b1, k1⟩ := take_ok (n := n) (many := 7) hb hp (by decide)
  obtain ⟨r2, s2, e2, a2, b2, k2⟩ := take_ok (n := n) (many := 7) k1.bag hp (by decide)
  obtain ⟨w1, g1⟩ := w7 r1 a1 b1
  obtain ⟨w2, g2⟩ := w7 r2 a2 b2
  refine wps_seq (wps_par ?_)
  simp only [ev_var, ev_cint, ev_cstr, ev_cbl, ev_cnon, ev_g, ev_bin, ev_neg, ev_not, ev_cmp, ev_chn, ev_chn3, ev_dst, ev_revT, ev_stp, ev_lix, ev_err, ev_srt, ev_wlk, ev_lgn, lstO_ok, ev_gf, ev_isl, ev_fld, ev_mth, ev_msp, ev_prp, ev_oln, ev_con0, ev_con1, ev_cmt, ev_oeq, ev_isp, ev_ccn, okO_ok, ev_cav, ev_cpm, ev_and, ev_or, ev_ite, ev_tup, ev_lst, ev_call, ev_bi, ev_isi, ev_idx, ev_slc, ev_rev, ev_lrng, ev_lrng1, ev_dnew, ev_cpy, ev_comp, mkTup_ok, l_lens, l_len0, Nat.reduceLeDiff, Nat.reduceAdd, evs, evo, evi, bnd_ok, sbd_ok, pur_some, wpe_ok, wps_nx, wps_rt, b_add, b_sub, c_lt, c_le, c_gt, c_ge, c_eq, c_ne, c_in, c_nin, c_is, c_isnot, l_get0, l_gets, l_set0, l_sets, o_map, l_maps, l_map0, l_apps, l_app0, List.append_nil, if_true, le_size, fresh_f', e1, g1, e2, g2, if_true]
  refine ⟨_, rfl, ?_⟩
  simp only [ev_var, ev_cint, ev_cstr, ev_cbl, ev_cnon, ev_g, ev_bin, ev_neg, ev_not, ev_cmp, ev_chn, ev_chn3, ev_dst, ev_revT, ev_stp, ev_lix, ev_err, ev_srt, ev_wlk, ev_lgn, lstO_ok, ev_gf, ev_isl, ev_fld, ev_mth, ev_msp, ev_prp, ev_oln, ev_con0, ev_con1, ev_cmt, ev_oeq, ev_isp, ev_ccn, okO_ok, ev_cav, ev_cpm, ev_and, ev_or, ev_ite, ev_tup, ev_lst, ev_call, ev_bi, ev_isi, ev_idx, ev_slc, ev_rev, ev_lrng, ev_lrng1, ev_dnew, ev_cpy, ev_comp, mkTup_ok, l_lens, l_len0, Nat.reduceLeDiff, Nat.reduceAdd, evs, evo, evi, bnd_ok, sbd_ok, pur_some, wpe_ok, wps_nx, wps_rt, b_add, b_sub, c_lt, c_le, c_gt, c_ge, c_eq, c_ne, c_in, c_nin, c_is, c_isnot, l_get0, l_gets, l_set0, l_sets, o_map, l_maps, l_map0, l_apps, l_app0, List.append_nil]
  obtain ⟨c, s3, e3, a3, b3, k3⟩ := take_ok (n := n) (many := most + 1) k2.bag hp (by omega)
  have hk3 := (k1.trans k2).trans k3
  refine wps_seq (wps_for (rngL 0 c) (fun i ρ s4 => ∃ (ws : List Wd) (y z : Option D), ρ = [some (.loc p), some (.int most), some (.lst [.str "cut", .str "evens", .str "half", .str "odds", .str "rest", .str "skip", .str "turn"]), some (.lst [wD w1, wD w2, .str "turn"]), some (.tup (ws.map wD)), y, z] ∧ ws.length = i ∧ Kb k s s4) ?_ ?_ ?_)
  · have hs : small62 c := ⟨by omega, by omega⟩
    refine WPE.mk (a := rngL 0 c) (s := s3) ?_ ⟨rfl, [], none, none, rfl, rfl, hk3⟩
    simp only [ev_var, ev_cint, ev_cstr, ev_cbl, ev_cnon, ev_g, ev_bin, ev_neg, ev_not, ev_cmp, ev_chn, ev_chn3, ev_dst, ev_revT, ev_stp, ev_lix, ev_err, ev_srt, ev_wlk, ev_lgn, lstO_ok, ev_gf, ev_isl, ev_fld, ev_mth, ev_msp, ev_prp, ev_oln, ev_con0, ev_con1, ev_cmt, ev_oeq, ev_isp, ev_ccn, okO_ok, ev_cav, ev_cpm, ev_and, ev_or, ev_ite, ev_tup, ev_lst, ev_call, ev_bi, ev_isi, ev_idx, ev_slc, ev_rev, ev_lrng, ev_lrng1, ev_dnew, ev_cpy, ev_comp, mkTup_ok, l_lens, l_len0, Nat.reduceLeDiff, Nat.reduceAdd, evs, evo, evi, bnd_ok, sbd_ok, pur_some, wpe_ok, wps_nx, wps_rt, b_add, b_sub, c_lt, c_le, c_gt, c_ge, c_eq, c_ne, c_in, c_nin, c_is, c_isnot, l_get0, l_gets, l_set0, l_sets, o_map, l_maps, l_map0, l_apps, l_app0, List.append_nil, e3, if_pos hs]
  · rintro i x ρ s4 hx ⟨ws, y, z, rfl, hl, hk4⟩
    obtain ⟨hi, rfl⟩ := rng_get hx
    refine ⟨_, rfl, ?_⟩
    obtain ⟨r5, s5, e5, a5, b5, k5⟩ := take_ok (n := n) (many := 7) hk4.bag hp (by decide)
    obtain ⟨w5, g5⟩ := w7 r5 a5 b5
    refine wps_seq (wps_set ?_)
    simp only [ev_var, ev_cint, ev_cstr, ev_cbl, ev_cnon, ev_g, ev_bin, ev_neg, ev_not, ev_cmp, ev_chn, ev_chn3, ev_dst, ev_revT, ev_stp, ev_lix, ev_err, ev_srt, ev_wlk, ev_lgn, lstO_ok, ev_gf, ev_isl, ev_fld, ev_mth, ev_msp, ev_prp, ev_oln, ev_con0, ev_con1, ev_cmt, ev_oeq, ev_isp, ev_ccn, okO_ok, ev_cav, ev_cpm, ev_and, ev_or, ev_ite, ev_tup, ev_lst, ev_call, ev_bi, ev_isi, ev_idx, ev_slc, ev_rev, ev_lrng, ev_lrng1, ev_dnew, ev_cpy, ev_comp, mkTup_ok, l_lens, l_len0, Nat.reduceLeDiff, Nat.reduceAdd, evs, evo, evi, bnd_ok, sbd_ok, pur_some, wpe_ok, wps_nx, wps_rt, b_add, b_sub, c_lt, c_le, c_gt, c_ge, c_eq, c_ne, c_in, c_nin, c_is, c_isnot, l_get0, l_gets, l_set0, l_sets, o_map, l_maps, l_map0, l_apps, l_app0, List.append_nil, e5, g5]
    obtain ⟨r6, s6, e6, a6, b6, k6⟩ := take_ok (n := n) (many := 2) k5.bag hp (by decide)
    have hlen : (ws.map wD).length + [D.int 0].length ≤ sizeLine := by
      rw [List.length_map]
      have : sizeLine = 16777216 := rfl
      simp only [List.length_cons, List.length_nil]
      omega
    have fin : ∀ (w : Wd) (s7 : Sto) (y : Option D), Kb k s s7 → WPS (ex (cal GG (n + 1)) s.length ((S.set 4 (.bin .add (.var 4) (.tup (.cons (.var 6) .nil)))).seq .skip) [some (.loc p), some (.int most), some (.lst [.str "cut", .str "evens", .str "half", .str "odds", .str "rest", .str "skip", .str "turn"]), some (.lst [wD w1, wD w2, .str "turn"]), some (.tup (ws.map wD)), y, some (wD w)] s7)
        (fun ρ s4 => ∃ (ws : List Wd) (y z : Option D), ρ = [some (.loc p), some (.int most), some (.lst [.str "cut", .str "evens", .str "half", .str "odds", .str "rest", .str "skip", .str "turn"]), some (.lst [wD w1, wD w2, .str "turn"]), some (.tup (ws.map wD)), y, z] ∧ ws.length = i + 1 ∧ Kb k s s4) fun r s1 => WPE (fin F_l_words.fz s.length s1 r) fun r s1 => ∃ ws : List Wd, r = .tup (ws.map wD) ∧ (ws.length : Int) ≤ most ∧ Kb k s s1 := fun w s7 y hk => by
      refine wps_seq (wps_set ?_)
      have hl2 : (ws.map wD).length + [wD w].length ≤ sizeLine := hlen
      simp only [ev_var, ev_cint, ev_cstr, ev_cbl, ev_cnon, ev_g, ev_bin, ev_neg, ev_not, ev_cmp, ev_chn, ev_chn3, ev_dst, ev_revT, ev_stp, ev_lix, ev_err, ev_srt, ev_wlk, ev_lgn, lstO_ok, ev_gf, ev_isl, ev_fld, ev_mth, ev_msp, ev_prp, ev_oln, ev_con0, ev_con1, ev_cmt, ev_oeq, ev_isp, ev_ccn, okO_ok, ev_cav, ev_cpm, ev_and, ev_or, ev_ite, ev_tup, ev_lst, ev_call, ev_bi, ev_isi, ev_idx, ev_slc, ev_rev, ev_lrng, ev_lrng1, ev_dnew, ev_cpy, ev_comp, mkTup_ok, l_lens, l_len0, Nat.reduceLeDiff, Nat.reduceAdd, evs, evo, evi, bnd_ok, sbd_ok, pur_some, wpe_ok, wps_nx, wps_rt, b_add, b_sub, c_lt, c_le, c_gt, c_ge, c_eq, c_ne, c_in, c_nin, c_is, c_isnot, l_get0, l_gets, l_set0, l_sets, o_map, l_maps, l_map0, l_apps, l_app0, List.append_nil, if_pos (fit3 [wD w].length (by simp)), b_addT hl2]
      refine wps_skip ⟨ws ++ [w], y, some (wD w), ?_, ?_, hk⟩
      · rw [List.map_append]
        rfl
      · rw [List.length_append, hl]
        rfl
    refine wps_seq (wps_ifs ?_)
    simp only [ev_var, ev_cint, ev_cstr, ev_cbl, ev_cnon, ev_g, ev_bin, ev_neg, ev_not, ev_cmp, ev_chn, ev_chn3, ev_dst, ev_revT, ev_stp, ev_lix, ev_err, ev_srt, ev_wlk, ev_lgn, lstO_ok, ev_gf, ev_isl, ev_fld, ev_mth, ev_msp, ev_prp, ev_oln, ev_con0, ev_con1, ev_cmt, ev_oeq, ev_isp, ev_ccn, okO_ok, ev_cav, ev_cpm, ev_and, ev_or, ev_ite, ev_tup, ev_lst, ev_call, ev_bi, ev_isi, ev_idx, ev_slc, ev_rev, ev_lrng, ev_lrng1, ev_dnew, ev_cpy, ev_comp, mkTup_ok, l_lens, l_len0, Nat.reduceLeDiff, Nat.reduceAdd, evs, evo, evi, bnd_ok, sbd_ok, pur_some, wpe_ok, wps_nx, wps_rt, b_add, b_sub, c_lt, c_le, c_gt, c_ge, c_eq, c_ne, c_in, c_nin, c_is, c_isnot, l_get0, l_gets, l_set0, l_sets, o_map, l_maps, l_map0, l_apps, l_app0, List.append_nil, e6]
    rw [eq_nice (k := 0) (j := 0) rfl rfl]
    simp only [ev_var, ev_cint, ev_cstr, ev_cbl, ev_cnon, ev_g, ev_bin, ev_neg, ev_not, ev_cmp, ev_chn, ev_chn3, ev_dst, ev_revT, ev_stp, ev_lix, ev_err, ev_srt, ev_wlk, ev_lgn, lstO_ok, ev_gf, ev_isl, ev_fld, ev_mth, ev_msp, ev_prp, ev_oln, ev_con0, ev_con1, ev_cmt, ev_oeq, ev_isp, ev_ccn, okO_ok, ev_cav, ev_cpm, ev_and, ev_or, ev_ite, ev_tup, ev_lst, ev_call, ev_bi, ev_isi, ev_idx, ev_slc, ev_rev, ev_lrng, ev_lrng1, ev_dnew, ev_cpy, ev_comp, mkTup_ok, l_lens, l_len0, Nat.reduceLeDiff, Nat.reduceAdd, evs, evo, evi, bnd_ok, sbd_ok, pur_some, wpe_ok, wps_nx, wps_rt, b_add, b_sub, c_lt, c_le, c_gt, c_ge, c_eq, c_ne, c_in, c_nin, c_is, c_isnot, l_get0, l_gets, l_set0, l_sets, o_map, l_maps, l_map0, l_apps, l_app0, List.append_nil]
    refine ⟨_, rfl, fun z => ?_, fun z => ?_⟩
    · obtain ⟨r7, s7, e7, a7, b7, k7⟩ := take_ok (n := n) (many := 3) k6.bag hp (by decide)
      obtain ⟨w7, g7⟩ := w3 w1 w2 r7 a7 b7
      refine wps_seq (wps_set ?_)
      simp only [ev_var, ev_cint, ev_cstr, ev_cbl, ev_cnon, ev_g, ev_bin, ev_neg, ev_not, ev_cmp, ev_chn, ev_chn3, ev_dst, ev_revT, ev_stp, ev_lix, ev_err, ev_srt, ev_wlk, ev_lgn, lstO_ok, ev_gf, ev_isl, ev_fld, ev_mth, ev_msp, ev_prp, ev_oln, ev_con0, ev_con1, ev_cmt, ev_oeq, ev_isp, ev_ccn, okO_ok, ev_cav, ev_cpm, ev_and, ev_or, ev_ite, ev_tup, ev_lst, ev_call, ev_bi, ev_isi, ev_idx, ev_slc, ev_rev, ev_lrng, ev_lrng1, ev_dnew, ev_cpy, ev_comp, mkTup_ok, l_lens, l_len0, Nat.reduceLeDiff, Nat.reduceAdd, evs, evo, evi, bnd_ok, sbd_ok, pur_some, wpe_ok, wps_nx, wps_rt, b_add, b_sub, c_lt, c_le, c_gt, c_ge, c_eq, c_ne, c_in, c_nin, c_is, c_isnot, l_get0, l_gets, l_set0, l_sets, o_map, l_maps, l_map0, l_apps, l_app0, List.append_nil, e7, g7]
      exact wps_skip (fin w7 s7 _ (((hk4.trans k5).trans k6).trans k7))
    · exact wps_skip (fin w5 s6 _ ((hk4.trans k5).trans k6))
  · rintro ρ s4 ⟨ws, y, z, rfl, hl, hk4⟩
    refine wps_seq (wps_ret ?_)
    simp only [ev_var, ev_cint, ev_cstr, ev_cbl, ev_cnon, ev_g, ev_bin, ev_neg, ev_not, ev_cmp, ev_chn, ev_chn3, ev_dst, ev_revT, ev_stp, ev_lix, ev_err, ev_srt, ev_wlk, ev_lgn, lstO_ok, ev_gf, ev_isl, ev_fld, ev_mth, ev_msp, ev_prp, ev_oln, ev_con0, ev_con1, ev_cmt, ev_oeq, ev_isp, ev_ccn, okO_ok, ev_cav, ev_cpm, ev_and, ev_or, ev_ite, ev_tup, ev_lst, ev_call, ev_bi, ev_isi, ev_idx, ev_slc, ev_rev, ev_lrng, ev_lrng1, ev_dnew, ev_cpy, ev_comp, mkTup_ok, l_lens, l_len0, Nat.reduceLeDiff, Nat.reduceAdd, evs, evo, evi, bnd_ok, sbd_ok, pur_some, wpe_ok, wps_nx, wps_rt, b_add, b_sub, c_lt, c_le, c_gt, c_ge, c_eq, c_ne, c_in, c_nin, c_is, c_isnot, l_get0, l_gets, l_set0, l_sets, o_map, l_maps, l_map0, l_apps, l_app0, List.append_nil]
    refine WPE.mk (fin_keep (by simp only [noloc, wds_noloc]) ?_) ⟨ws, rfl, ?_, hk4⟩
    · rw [← hk4.len, List.take_length]
    · rw [hl, rng_len]
      omega
theorem m5 (r : Int) (h0 : 0 ≤ r) (h : r < 5) : ∃ m : Int, MOk m ∧ ∀ s, idxD s (.lst [.int 1, .int 1, .int 2, .int 4, .int 8]) (.int r) = some (.int m) := by
  rcases (by omega : r = 0 ∨ r = 1 ∨ r = 2 ∨ r = 3 ∨ r = 4) with rfl | rfl | rfl | rfl | rfl
  · exact ⟨1, .inl rfl, fun s => rfl⟩
  · exact ⟨1, .inl rfl, fun s => rfl⟩
  · exact ⟨2, .inr (.inl rfl), fun s => rfl⟩
  · exact ⟨4, .inr (.inr (.inl rfl)), fun s => rfl⟩
  · exact ⟨8, .inr (.inr (.inr rfl)), fun s => rfl⟩
theorem job_ok {n k p : Nat} {most : Int} {s : Sto} (hb : Bags k s) (hp : p < k) (hm : 0 ≤ most) (hm2 : most ≤ 100) : ∃ (m : Int) (ws : List Wd) (s' : Sto), cal GG (n + 3) i_l_job [.loc p, .int most] s = some (.ok (jD m ws) s') ∧ MOk m ∧ (ws.length : Int) ≤ most ∧ Kb k s s' := by
  suffices h : WPE (cal GG (n + 3) i_l_job [.loc p, .int most] s) fun r s1 => ∃ (m : Int) (ws : List Wd), r = jD m ws ∧ MOk m ∧ (ws.length : Int) ≤ most ∧ Kb k s s1 by
    obtain ⟨r, s1, e, m, ws, rfl, h1, h2, h3⟩ := h
    exact ⟨m, ws, s1, e, h1, h2, h3⟩
  refine cal_wp Gi_l_job rfl ?_
  show WPS (ex _ _ _ [some (.loc p), some (.int most)] s) _ _
  obtain ⟨r1, s1, e1, a1, b1, k1⟩ := take_ok (n := n + 1) (many := 5) hb hp (by decide)
  obtain ⟨m, hm5, g1⟩ := m5 r1 a1 b1
  obtain ⟨ws, s2, e2, hl, k2⟩ := words_ok (n := n) (most := most) k1.bag hp hm hm2
  refine wps_seq (wps_ret ?_)
  simp only [ev_var, ev_cint, ev_cstr, ev_cbl, ev_cnon, ev_g, ev_bin, ev_neg, ev_not, ev_cmp, ev_chn, ev_chn3, ev_dst, ev_revT, ev_stp, ev_lix, ev_err, ev_srt, ev_wlk, ev_lgn, lstO_ok, ev_gf, ev_isl, ev_fld, ev_mth, ev_msp, ev_prp, ev_oln, ev_con0, ev_con1, ev_cmt, ev_oeq, ev_isp, ev_ccn, okO_ok, ev_cav, ev_cpm, ev_and, ev_or, ev_ite, ev_tup, ev_lst, ev_call, ev_bi, ev_isi, ev_idx, ev_slc, ev_rev, ev_lrng, ev_lrng1, ev_dnew, ev_cpy, ev_comp, mkTup_ok, l_lens, l_len0, Nat.reduceLeDiff, Nat.reduceAdd, evs, evo, evi, bnd_ok, sbd_ok, pur_some, wpe_ok, wps_nx, wps_rt, b_add, b_sub, c_lt, c_le, c_gt, c_ge, c_eq, c_ne, c_in, c_nin, c_is, c_isnot, l_get0, l_gets, l_set0, l_sets, o_map, l_maps, l_map0, l_apps, l_app0, List.append_nil, if_true, le_size, fresh_f', e1, g1, e2, if_true]
  have hk := k1.trans k2
  refine WPE.mk (fin_keep (by simp only [noloc, nolocs, wds_noloc, Bool.and_self]) ?_) ⟨m, ws, rfl, hm5, hl, hk⟩
  rw [← hk.len, List.take_length]
theorem bag_ok {n k : Nat} {ns : List Int} {s : Sto} : ∃ c : Cell, cal GG (n + 2) i_l_bag [.scr ns, .int (k : Nat)] s = some (.ok (.loc s.length) (s ++ [c])) ∧ ∃ ds : List Int, ds.length = 400 ∧ c = .lst [.lst (ds.map .int), .int 0] := by
  obtain ⟨c, ec⟩ := cell_at_ok (n := n) (ns := ns) (k := k) (s := s)
  obtain ⟨ds, hl, ed⟩ := draws_ok (n := n) (c := c) (s := s)
  refine ⟨.lst [.lst (ds.map .int), .int 0], ?_, ds, hl, rfl⟩
  refine WPE.eq (a := D.loc s.length) (s := s ++ [.lst [.lst (ds.map .int), .int 0]]) ?_
  refine cal_wp Gi_l_bag rfl ?_
  show WPS (ex _ _ _ [some (.scr ns), some (.int (k : Nat))] s) _ _
  refine wps_seq (wps_ret ?_)
  simp only [ev_var, ev_cint, ev_cstr, ev_cbl, ev_cnon, ev_g, ev_bin, ev_neg, ev_not, ev_cmp, ev_chn, ev_chn3, ev_dst, ev_revT, ev_stp, ev_lix, ev_err, ev_srt, ev_wlk, ev_lgn, lstO_ok, ev_gf, ev_isl, ev_fld, ev_mth, ev_msp, ev_prp, ev_oln, ev_con0, ev_con1, ev_cmt, ev_oeq, ev_isp, ev_ccn, okO_ok, ev_cav, ev_cpm, ev_and, ev_or, ev_ite, ev_tup, ev_lst, ev_call, ev_bi, ev_isi, ev_idx, ev_slc, ev_rev, ev_lrng, ev_lrng1, ev_dnew, ev_cpy, ev_comp, mkTup_ok, l_lens, l_len0, Nat.reduceLeDiff, Nat.reduceAdd, evs, evo, evi, bnd_ok, sbd_ok, pur_some, wpe_ok, wps_nx, wps_rt, b_add, b_sub, c_lt, c_le, c_gt, c_ge, c_eq, c_ne, c_in, c_nin, c_is, c_isnot, l_get0, l_gets, l_set0, l_sets, o_map, l_maps, l_map0, l_apps, l_app0, List.append_nil, if_true, le_size, fresh_f', ec, ed, fresh_t']
  exact WPE.mk (by unfold fin; exact if_neg (by decide)) ⟨rfl, rfl⟩
theorem bags_ok {n : Nat} {ns : List Int} {limit : Int} (hl : 1 ≤ limit) (hl2 : limit ≤ 100) : ∃ (N : Nat) (s' : Sto), cal GG (n + 3) i_l_bags [.scr ns, .int limit] [] = some (.ok (.lst ((List.range N).map fun i => .loc i)) s') ∧ (N : Int) ≤ limit ∧ 1 ≤ N ∧ s'.length = N ∧ Bags N s' := by
  suffices h : WPE (cal GG (n + 3) i_l_bags [.scr ns, .int limit] []) fun r s1 => ∃ N : Nat, r = .lst ((List.range N).map fun i => .loc i) ∧ (N : Int) ≤ limit ∧ 1 ≤ N ∧ s1.length = N ∧ Bags N s1 by
    obtain ⟨r, s1, e, N, rfl, h1, h2, h3⟩ := h
    exact ⟨N, s1, e, h1, h2, h3⟩
  refine cal_wp Gi_l_bags rfl ?_
  show WPS (ex _ _ _ [some (.scr ns), some (.int limit), none] []) _ _
  have l1 : ∀ s, bi1 .len s (.scr ns) = some (.int (ns.length : Nat)) := fun s => rfl
  obtain ⟨N, hN⟩ : ∃ N : Nat, (N : Int) = max 1 (min limit (ns.length : Nat)) := ⟨(max 1 (min limit (ns.length : Nat))).toNat, by omega⟩
  have hs : small62 (max 1 (min limit (ns.length : Nat))) := ⟨by omega, by omega⟩
  refine wps_seq (wps_ret ?_)
  refine wpe_comp (rngL 0 N) (fun i ys s1 => ys = (List.range i).map (fun i => D.loc i) ∧ s1.length = i ∧ Bags i s1) ?_ ?_ ?_
  · refine WPE.mk (a := rngL 0 (max 1 (min limit (ns.length : Nat)))) (s := []) ?_ ⟨by rw [hN], rfl, rfl, fun p hp => absurd hp (Nat.not_lt_zero p)⟩
    simp only [ev_var, ev_cint, ev_cstr, ev_cbl, ev_cnon, ev_g, ev_bin, ev_neg, ev_not, ev_cmp, ev_chn, ev_chn3, ev_dst, ev_revT, ev_stp, ev_lix, ev_err, ev_srt, ev_wlk, ev_lgn, lstO_ok, ev_gf, ev_isl, ev_fld, ev_mth, ev_msp, ev_prp, ev_oln, ev_con0, ev_con1, ev_cmt, ev_oeq, ev_isp, ev_ccn, okO_ok, ev_cav, ev_cpm, ev_and, ev_or, ev_ite, ev_tup, ev_lst, ev_call, ev_bi, ev_isi, ev_idx, ev_slc, ev_rev, ev_lrng, ev_lrng1, ev_dnew, ev_cpy, ev_comp, mkTup_ok, l_lens, l_len0, Nat.reduceLeDiff, Nat.reduceAdd, evs, evo, evi, bnd_ok, sbd_ok, pur_some, wpe_ok, wps_nx, wps_rt, b_add, b_sub, c_lt, c_le, c_gt, c_ge, c_eq, c_ne, c_in, c_nin, c_is, c_isnot, l_get0, l_gets, l_set0, l_sets, o_map, l_maps, l_map0, l_apps, l_app0, List.append_nil, biD, bi2, l1, min2, max2, if_pos hs]
  · rintro i x ys s1 hx ⟨rfl, hlen, hb⟩
    obtain ⟨hi, rfl⟩ := rng_get hx
    rw [Int.zero_add]
    obtain ⟨c, e, ds, hds, rfl⟩ := bag_ok (n := n) (k := i) (ns := ns) (s := s1)
    refine ⟨_, rfl, ?_⟩
    simp only [ev_var, ev_cint, ev_cstr, ev_cbl, ev_cnon, ev_g, ev_bin, ev_neg, ev_not, ev_cmp, ev_chn, ev_chn3, ev_dst, ev_revT, ev_stp, ev_lix, ev_err, ev_srt, ev_wlk, ev_lgn, lstO_ok, ev_gf, ev_isl, ev_fld, ev_mth, ev_msp, ev_prp, ev_oln, ev_con0, ev_con1, ev_cmt, ev_oeq, ev_isp, ev_ccn, okO_ok, ev_cav, ev_cpm, ev_and, ev_or, ev_ite, ev_tup, ev_lst, ev_call, ev_bi, ev_isi, ev_idx, ev_slc, ev_rev, ev_lrng, ev_lrng1, ev_dnew, ev_cpy, ev_comp, mkTup_ok, l_lens, l_len0, Nat.reduceLeDiff, Nat.reduceAdd, evs, evo, evi, bnd_ok, sbd_ok, pur_some, wpe_ok, wps_nx, wps_rt, b_add, b_sub, c_lt, c_le, c_gt, c_ge, c_eq, c_ne, c_in, c_nin, c_is, c_isnot, l_get0, l_gets, l_set0, l_sets, o_map, l_maps, l_map0, l_apps, l_app0, List.append_nil, wipeE, e]
    refine .inl ⟨trivial, ?_, ?_, ?_⟩
    · rw [List.range_succ, List.map_append, hlen]
      rfl
    · rw [List.length_append, hlen]
      rfl
    · intro p hp
      by_cases hq : p < i
      · obtain ⟨ds', i', q1, q2⟩ := hb p hq
        exact ⟨ds', i', q1, by rw [List.getElem?_append_left (by omega)]; exact q2⟩
      · have : p = s1.length := by omega
        subst this
        exact ⟨ds, 0, hds, by simp⟩
  · rintro ys s1 ⟨rfl, hlen, hb⟩
    rw [rng_len] at hlen hb ⊢
    have hn : ((N : Int) - 0).toNat = N := by omega
    rw [hn] at hlen hb ⊢
    refine ⟨by rw [List.length_map, List.length_range]; exact fit3 N (by omega), ?_⟩
    exact WPE.mk (by unfold fin; exact if_neg (by decide)) ⟨N, rfl, by omega, by omega, hlen, hb⟩
end EV

set_option maxHeartbeats 4000000
/-! spans' bounds, items -/
namespace EV
open PySem PySem.Spec PyProof.Rows L2
theorem ints_noloc (xs : List Int) : nolocs (xs.map .int) = true := by
  induction xs with
  | nil => rfl
  | cons x r ih => simp [nolocs, noloc, ih]
structure Sp.Ok (p : Sp) : Prop where
  n0 : 0 ≤ p.n
  s0 : p.s ≠ 0
theorem Sp.Ok.after {p : Sp} (h : p.Ok) (w : Wd) : (p.after w).Ok ∧ (p.after w).n ≤ p.n := by
  obtain ⟨h1, h2⟩ := h
  cases w <;> simp only [Sp.after] <;> exact ⟨⟨by dsimp only; omega, by dsimp only; omega⟩, by omega⟩
theorem fold_ok : ∀ (ws : List Wd) (p : Sp), p.Ok → (ws.foldl Sp.after p).Ok ∧ (ws.foldl Sp.after p).n ≤ p.n ∧ (ws.foldl Sp.after p).s.natAbs ≤ 2 ^ ws.length * p.s.natAbs
  | [], p, h => ⟨h, Int.le_refl _, by simp⟩
  | w :: r, p, h => by
    obtain ⟨h1, h2⟩ := h.after w
    obtain ⟨g1, g2, g3⟩ := fold_ok r (p.after w) h1
    refine ⟨g1, Int.le_trans g2 h2, Nat.le_trans g3 ?_⟩
    rw [List.length_cons, Nat.pow_succ]
    calc 2 ^ r.length * (p.after w).s.natAbs ≤ 2 ^ r.length * (2 * p.s.natAbs) := Nat.mul_le_mul_left _ (after_abs p w)
      _ = 2 ^ r.length * 2 * p.s.natAbs := by rw [Nat.mul_assoc]
theorem rnd_bd {m p : Int} (h : 0 < m) (hp : 0 ≤ p) : 0 ≤ (p + m - 1) / m * m ∧ (p + m - 1) / m * m ≤ p + m - 1 ∧ p ≤ (p + m - 1) / m * m := by
  have h1 := Int.emod_add_mul_ediv (p + m - 1) m
  have h2 := Int.emod_nonneg (p + m - 1) (show m ≠ 0 by omega)
  have h3 := Int.emod_lt_of_pos (p + m - 1) h
  have h4 : 0 ≤ (p + m - 1) / m := Int.ediv_nonneg (by omega) (by omega)
  rw [Int.mul_comm] at h1
  refine ⟨Int.mul_nonneg h4 (by omega), by omega, by omega⟩
theorem MOk.pos {m : Int} (h : MOk m) : 0 < m ∧ m ≤ 8 := by
  rcases h with rfl | rfl | rfl | rfl <;> decide
theorem spanOf_ok {m p : Int} {ws : List Wd} (h : 0 < m) (hp : 0 ≤ p) : (spanOf m ws p).Ok ∧ (spanOf m ws p).n ≤ p + m - 1 ∧ (spanOf m ws p).s.natAbs ≤ 2 ^ ws.length := by
  obtain ⟨r1, r2, _⟩ := rnd_bd h hp
  obtain ⟨h1, h2, h3⟩ := fold_ok ws ⟨1, 1, (p + m - 1) / m * m⟩ ⟨r1, by simp⟩
  refine ⟨h1, Int.le_trans h2 r2, ?_⟩
  simp only [Int.natAbs_one, Nat.mul_one] at h3
  exact h3
theorem spanOf_s {m p : Int} {ws : List Wd} (h : 0 < m) (hp : 0 ≤ p) (hl : ws.length ≤ 20) : (spanOf m ws p).s.natAbs ≤ 2 ^ 20 :=
  Nat.le_trans (spanOf_ok h hp).2.2 (Nat.pow_le_pow_right (by omega) hl)
def Sp.item (p : Sp) (k i : Int) : Int := if i < p.n ∧ p.f + p.s * i ≤ k then p.f + p.s * i else 0
theorem item_of_ok {n : Nat} {p : Sp} {k i : Int} {s : Sto} (h : p.s.natAbs < 2 ^ 60) : cal GG (n + 1) i_item_of [spD p, .int k, .int i] s = some (.ok (.int (p.item k i)) s) := by
  refine cal_pure Gi_item_of rfl rfl rfl ?_
  show WPS (ex _ _ _ [some (.tup [.int p.f, .int p.s, .int p.n]), some (.int k), some (.int i), none, none, none, none] s) _ _
  have hk : ∀ j, CMul p.s j := fun j => cmul_l (by omega)
  refine wps_seq (wps_unp ?_)
  simp only [ev_var, ev_cint, ev_cstr, ev_cbl, ev_cnon, ev_g, ev_bin, ev_neg, ev_not, ev_cmp, ev_chn, ev_chn3, ev_dst, ev_revT, ev_stp, ev_lix, ev_err, ev_srt, ev_wlk, ev_lgn, lstO_ok, ev_gf, ev_isl, ev_fld, ev_mth, ev_msp, ev_prp, ev_oln, ev_con0, ev_con1, ev_cmt, ev_oeq, ev_isp, ev_ccn, okO_ok, ev_cav, ev_cpm, ev_and, ev_or, ev_ite, ev_tup, ev_lst, ev_call, ev_bi, ev_isi, ev_idx, ev_slc, ev_rev, ev_lrng, ev_lrng1, ev_dnew, ev_cpy, ev_comp, mkTup_ok, l_lens, l_len0, Nat.reduceLeDiff, Nat.reduceAdd, evs, evo, evi, bnd_ok, sbd_ok, pur_some, wpe_ok, wps_nx, wps_rt, b_add, b_sub, c_lt, c_le, c_gt, c_ge, c_eq, c_ne, c_in, c_nin, c_is, c_isnot, l_get0, l_gets, l_set0, l_sets, o_map, l_maps, l_map0, l_apps, l_app0, List.append_nil]
  refine ⟨_, rfl, ?_⟩
  refine wps_seq (wps_set ?_)
  simp only [ev_var, ev_cint, ev_cstr, ev_cbl, ev_cnon, ev_g, ev_bin, ev_neg, ev_not, ev_cmp, ev_chn, ev_chn3, ev_dst, ev_revT, ev_stp, ev_lix, ev_err, ev_srt, ev_wlk, ev_lgn, lstO_ok, ev_gf, ev_isl, ev_fld, ev_mth, ev_msp, ev_prp, ev_oln, ev_con0, ev_con1, ev_cmt, ev_oeq, ev_isp, ev_ccn, okO_ok, ev_cav, ev_cpm, ev_and, ev_or, ev_ite, ev_tup, ev_lst, ev_call, ev_bi, ev_isi, ev_idx, ev_slc, ev_rev, ev_lrng, ev_lrng1, ev_dnew, ev_cpy, ev_comp, mkTup_ok, l_lens, l_len0, Nat.reduceLeDiff, Nat.reduceAdd, evs, evo, evi, bnd_ok, sbd_ok, pur_some, wpe_ok, wps_nx, wps_rt, b_add, b_sub, c_lt, c_le, c_gt, c_ge, c_eq, c_ne, c_in, c_nin, c_is, c_isnot, l_get0, l_gets, l_set0, l_sets, o_map, l_maps, l_map0, l_apps, l_app0, List.append_nil, b_mul (hk _)]
  refine wps_seq (wps_ret ?_)
  simp only [ev_var, ev_cint, ev_cstr, ev_cbl, ev_cnon, ev_g, ev_bin, ev_neg, ev_not, ev_cmp, ev_chn, ev_chn3, ev_dst, ev_revT, ev_stp, ev_lix, ev_err, ev_srt, ev_wlk, ev_lgn, lstO_ok, ev_gf, ev_isl, ev_fld, ev_mth, ev_msp, ev_prp, ev_oln, ev_con0, ev_con1, ev_cmt, ev_oeq, ev_isp, ev_ccn, okO_ok, ev_cav, ev_cpm, ev_and, ev_or, ev_ite, ev_tup, ev_lst, ev_call, ev_bi, ev_isi, ev_idx, ev_slc, ev_rev, ev_lrng, ev_lrng1, ev_dnew, ev_cpy, ev_comp, mkTup_ok, l_lens, l_len0, Nat.reduceLeDiff, Nat.reduceAdd, evs, evo, evi, bnd_ok, sbd_ok, pur_some, wpe_ok, wps_nx, wps_rt, b_add, b_sub, c_lt, c_le, c_gt, c_ge, c_eq, c_ne, c_in, c_nin, c_is, c_isnot, l_get0, l_gets, l_set0, l_sets, o_map, l_maps, l_map0, l_apps, l_app0, List.append_nil]
  unfold Sp.item
  by_cases h1 : i < p.n
  · by_cases h2 : p.f + p.s * i ≤ k
    · simp only [ev_var, ev_cint, ev_cstr, ev_cbl, ev_cnon, ev_g, ev_bin, ev_neg, ev_not, ev_cmp, ev_chn, ev_chn3, ev_dst, ev_revT, ev_stp, ev_lix, ev_err, ev_srt, ev_wlk, ev_lgn, lstO_ok, ev_gf, ev_isl, ev_fld, ev_mth, ev_msp, ev_prp, ev_oln, ev_con0, ev_con1, ev_cmt, ev_oeq, ev_isp, ev_ccn, okO_ok, ev_cav, ev_cpm, ev_and, ev_or, ev_ite, ev_tup, ev_lst, ev_call, ev_bi, ev_isi, ev_idx, ev_slc, ev_rev, ev_lrng, ev_lrng1, ev_dnew, ev_cpy, ev_comp, mkTup_ok, l_lens, l_len0, Nat.reduceLeDiff, Nat.reduceAdd, evs, evo, evi, bnd_ok, sbd_ok, pur_some, wpe_ok, wps_nx, wps_rt, b_add, b_sub, c_lt, c_le, c_gt, c_ge, c_eq, c_ne, c_in, c_nin, c_is, c_isnot, l_get0, l_gets, l_set0, l_sets, o_map, l_maps, l_map0, l_apps, l_app0, List.append_nil, decide_eq_true h1, decide_eq_true h2, if_pos (And.intro h1 h2), and_self]
    · simp only [ev_var, ev_cint, ev_cstr, ev_cbl, ev_cnon, ev_g, ev_bin, ev_neg, ev_not, ev_cmp, ev_chn, ev_chn3, ev_dst, ev_revT, ev_stp, ev_lix, ev_err, ev_srt, ev_wlk, ev_lgn, lstO_ok, ev_gf, ev_isl, ev_fld, ev_mth, ev_msp, ev_prp, ev_oln, ev_con0, ev_con1, ev_cmt, ev_oeq, ev_isp, ev_ccn, okO_ok, ev_cav, ev_cpm, ev_and, ev_or, ev_ite, ev_tup, ev_lst, ev_call, ev_bi, ev_isi, ev_idx, ev_slc, ev_rev, ev_lrng, ev_lrng1, ev_dnew, ev_cpy, ev_comp, mkTup_ok, l_lens, l_len0, Nat.reduceLeDiff, Nat.reduceAdd, evs, evo, evi, bnd_ok, sbd_ok, pur_some, wpe_ok, wps_nx, wps_rt, b_add, b_sub, c_lt, c_le, c_gt, c_ge, c_eq, c_ne, c_in, c_nin, c_is, c_isnot, l_get0, l_gets, l_set0, l_sets, o_map, l_maps, l_map0, l_apps, l_app0, List.append_nil, decide_eq_true h1, decide_eq_false h2, if_neg (fun z : i < p.n ∧ p.f + p.s * i ≤ k => h2 z.2), and_self]
  · simp only [ev_var, ev_cint, ev_cstr, ev_cbl, ev_cnon, ev_g, ev_bin, ev_neg, ev_not, ev_cmp, ev_chn, ev_chn3, ev_dst, ev_revT, ev_stp, ev_lix, ev_err, ev_srt, ev_wlk, ev_lgn, lstO_ok, ev_gf, ev_isl, ev_fld, ev_mth, ev_msp, ev_prp, ev_oln, ev_con0, ev_con1, ev_cmt, ev_oeq, ev_isp, ev_ccn, okO_ok, ev_cav, ev_cpm, ev_and, ev_or, ev_ite, ev_tup, ev_lst, ev_call, ev_bi, ev_isi, ev_idx, ev_slc, ev_rev, ev_lrng, ev_lrng1, ev_dnew, ev_cpy, ev_comp, mkTup_ok, l_lens, l_len0, Nat.reduceLeDiff, Nat.reduceAdd, evs, evo, evi, bnd_ok, sbd_ok, pur_some, wpe_ok, wps_nx, wps_rt, b_add, b_sub, c_lt, c_le, c_gt, c_ge, c_eq, c_ne, c_in, c_nin, c_is, c_isnot, l_get0, l_gets, l_set0, l_sets, o_map, l_maps, l_map0, l_apps, l_app0, List.append_nil, decide_eq_false h1, if_neg (fun z : i < p.n ∧ p.f + p.s * i ≤ k => h1 z.1), and_self]
def Sp.row (p : Sp) (k : Int) : List Int := (List.range p.n.toNat).map fun i => p.item k (i : Nat)
end EV

set_option maxHeartbeats 4000000
/-! sizes and places behind a word -/
namespace EV
open PySem PySem.Spec PyProof.Rows L2
/-- where the i-th item behind a word stood -/
def Wd.from (w : Wd) (n i : Int) : Int :=
  match w with
  | .turn => n - 1 - i
  | .odds => 2 * i
  | .evens => 2 * i + 1
  | .half => i
  | .rest => (n + 1) / 2 + i
  | .skip => i + 1
  | .cut => i
def Wd.size (w : Wd) (n : Int) : Int :=
  match w with
  | .turn => n
  | .odds => (n + 1) / 2
  | .evens => n / 2
  | .half => (n + 1) / 2
  | .rest => n / 2
  | .skip => max 0 (n - 1)
  | .cut => max 0 (n - 1)
theorem after_n (p : Sp) (w : Wd) : (p.after w).n = w.size p.n := by cases w <;> rfl
theorem from_in (w : Wd) {n i : Int} (h0 : 0 ≤ i) (h : i < w.size n) : 0 ≤ w.from n i ∧ w.from n i < n := by
  cases w <;> simp only [Wd.size, Wd.from] at h ⊢ <;> omega
theorem after_at (p : Sp) (w : Wd) (i : Int) : (p.after w).f + (p.after w).s * i = p.f + p.s * w.from p.n i := by
  cases w <;> simp only [Sp.after, Wd.from] <;> grind
theorem after_item (p : Sp) (w : Wd) (k : Int) {i : Int} (h0 : 0 ≤ i) (h : i < w.size p.n) : (p.after w).item k i = p.item k (w.from p.n i) := by
  unfold Sp.item
  rw [after_at, after_n]
  have := from_in w h0 h
  simp only [h, this.2, true_and]
structure Sp.Fit (p : Sp) : Prop where
  ok : p.Ok
  pos : ∀ i, 0 ≤ i → i < p.n → 1 ≤ p.f + p.s * i
theorem Sp.Fit.after {p : Sp} (h : p.Fit) (w : Wd) : (p.after w).Fit := by
  refine ⟨(h.ok.after w).1, fun i h0 hi => ?_⟩
  rw [after_n] at hi
  rw [after_at]
  obtain ⟨a, b⟩ := from_in w h0 hi
  exact h.pos _ a b
theorem fold_fit : ∀ (ws : List Wd) (p : Sp), p.Fit → (ws.foldl Sp.after p).Fit
  | [], p, h => h
  | w :: r, p, h => fold_fit r _ (h.after w)
theorem spanOf_fit {m p : Int} {ws : List Wd} (h : 0 < m) (hp : 0 ≤ p) : (spanOf m ws p).Fit :=
  fold_fit ws _ ⟨⟨(rnd_bd h hp).1, by simp⟩, fun i h0 _ => by simp only; omega⟩
theorem spanOf_snoc (m : Int) (ws : List Wd) (w : Wd) (k : Int) : spanOf m (ws ++ [w]) k = (spanOf m ws k).after w := by
  unfold spanOf
  rw [List.foldl_append]
  rfl
end EV

set_option maxHeartbeats 4000000
/-! lengths for growing numbers of pages -/
namespace EV
open PySem PySem.Spec PyProof.Rows L2
def lenW (ws : List Wd) (n : Int) : Int := ws.foldl (fun n w => w.size n) n
theorem lenW_cons (w : Wd) (ws : List Wd) (n : Int) : lenW (w :: ws) n = lenW ws (w.size n) := rfl
theorem fold_n : ∀ (ws : List Wd) (p : Sp), (ws.foldl Sp.after p).n = lenW ws p.n
  | [], p => rfl
  | w :: r, p => by
    show (r.foldl Sp.after (p.after w)).n = lenW r (w.size p.n)
    rw [fold_n r, after_n]
def rnd (m p : Int) : Int := (p + m - 1) / m * m
def fl (m : Int) (ws : List Wd) (p : Int) : Int := lenW ws (rnd m p)
theorem spanOf_n (m : Int) (ws : List Wd) (p : Int) : (spanOf m ws p).n = fl m ws p := fold_n ws _
theorem size_nn (w : Wd) {n : Int} (h : 0 ≤ n) : 0 ≤ w.size n := by cases w <;> simp only [Wd.size] <;> omega
theorem size_mono (w : Wd) {a b : Int} (h : a ≤ b) : w.size a ≤ w.size b := by cases w <;> simp only [Wd.size] <;> omega
theorem size_lip (w : Wd) {a k : Int} (h : 0 ≤ a) (hk : 0 ≤ k) : w.size (a + k) ≤ w.size a + k := by cases w <;> simp only [Wd.size] <;> omega
theorem size_low (w : Wd) {n : Int} (h : 0 ≤ n) : n ≤ 2 * w.size n + 1 := by cases w <;> simp only [Wd.size] <;> omega
theorem size_le (w : Wd) {n : Int} (h : 0 ≤ n) : w.size n ≤ n := by cases w <;> simp only [Wd.size] <;> omega
theorem lenW_nn : ∀ (ws : List Wd) {n : Int}, 0 ≤ n → 0 ≤ lenW ws n
  | [], _, h => h
  | w :: r, _, h => lenW_nn r (size_nn w h)
theorem lenW_mono : ∀ (ws : List Wd) {a b : Int}, a ≤ b → lenW ws a ≤ lenW ws b
  | [], _, _, h => h
  | w :: r, _, _, h => lenW_mono r (size_mono w h)
theorem lenW_le : ∀ (ws : List Wd) {n : Int}, 0 ≤ n → lenW ws n ≤ n
  | [], _, _ => Int.le_refl _
  | w :: r, _, h => Int.le_trans (lenW_le r (size_nn w h)) (size_le w h)
theorem lenW_lip : ∀ (ws : List Wd) {a k : Int}, 0 ≤ a → 0 ≤ k → lenW ws (a + k) ≤ lenW ws a + k
  | [], _, _, _, _ => Int.le_refl _
  | w :: r, a, k, h, hk => by
    have h1 := size_nn w h
    exact Int.le_trans (lenW_mono r (size_lip w h hk)) (lenW_lip r h1 hk)
theorem lenW_low : ∀ (ws : List Wd) {n : Int}, 0 ≤ n → n + 1 ≤ 2 ^ ws.length * (lenW ws n + 1)
  | [], n, h => by
    show n + 1 ≤ 2 ^ 0 * (n + 1)
    omega
  | w :: r, n, h => by
    have h1 := lenW_low r (size_nn w h)
    have h2 := size_low w h
    rw [lenW_cons, List.length_cons, Int.pow_succ]
    have : (2 : Int) ^ r.length * 2 * (lenW r (w.size n) + 1) = 2 * (2 ^ r.length * (lenW r (w.size n) + 1)) := by
      rw [Int.mul_comm (2 ^ r.length) 2, Int.mul_assoc]
    rw [this]
    omega
def Wd.hv : Wd → Bool
  | .odds | .evens | .half | .rest => true
  | _ => false
def szW : List Wd → Int
  | [] => 1
  | w :: r => (if w.hv then 2 else 1) * szW r
theorem szW_pos : ∀ ws, 0 < szW ws
  | [] => by decide
  | w :: r => by
    have := szW_pos r
    unfold szW
    split <;> omega
theorem szW_le : ∀ ws : List Wd, szW ws ≤ 2 ^ ws.length
  | [] => by decide
  | w :: r => by
    have h1 := szW_le r
    have h2 := szW_pos r
    rw [List.length_cons, Int.pow_succ]
    unfold szW
    split <;> omega
/-- so many items more go through all words -/
theorem lenW_shift : ∀ (ws : List Wd) {n n' k : Int}, 0 ≤ n → 0 ≤ n' → 0 ≤ k → n' ≤ n + szW ws * k → (0 < n → n' = n + szW ws * k) → lenW ws n' ≤ lenW ws n + k ∧ (0 < lenW ws n → lenW ws n' = lenW ws n + k)
  | [], n, n', k, h0, h1, hk, h2, h3 => by
    simp only [szW, Int.one_mul] at h2 h3
    exact ⟨h2, h3⟩
  | w :: r, n, n', k, h0, h1, hk, h2, h3 => by
    have hd : 0 ≤ szW r * k := Int.mul_nonneg (Int.le_of_lt (szW_pos r)) hk
    obtain ⟨d, ed⟩ : ∃ d, d = szW r * k := ⟨_, rfl⟩
    have e : szW (w :: r) * k = (if w.hv then 2 * d else d) := by
      unfold szW
      split
      · rw [Int.mul_assoc, ed]
      · rw [Int.one_mul, ed]
    rw [e] at h2 h3
    rw [← ed] at hd
    refine lenW_shift r (size_nn w h0) (size_nn w h1) hk ?_ ?_
    · rw [← ed]
      cases w <;> simp only [Wd.hv, if_true, Bool.false_eq_true, if_false, Wd.size] at h2 h3 ⊢ <;> omega
    · rw [← ed]
      cases w <;> simp only [Wd.hv, if_true, Bool.false_eq_true, if_false, Wd.size] at h2 h3 ⊢ <;> omega
section
variable {m : Int} {ws : List Wd}
theorem rnd_0 (h : 0 < m) : rnd m 0 = 0 := by
  unfold rnd
  rw [Int.ediv_eq_zero_of_lt (by omega) (by omega), Int.zero_mul]
theorem rnd_mono (h : 0 < m) {a b : Int} (hab : a ≤ b) : rnd m a ≤ rnd m b :=
  Int.mul_le_mul_of_nonneg_right (Int.ediv_le_ediv h (by omega)) (by omega)
theorem rnd_add (h : 0 < m) {a d : Int} (hd : m ∣ d) : rnd m (a + d) = rnd m a + d := by
  obtain ⟨c, rfl⟩ := hd
  unfold rnd
  rw [show a + m * c + m - 1 = a + m - 1 + m * c by omega, Int.add_mul_ediv_left _ _ (by omega), Int.add_mul, Int.mul_comm m c]
theorem rnd_nn (h : 0 < m) {a : Int} (ha : 0 ≤ a) : 0 ≤ rnd m a := (rnd_bd h ha).1
theorem fl_nn (h : 0 < m) {p : Int} (hp : 0 ≤ p) : 0 ≤ fl m ws p := lenW_nn ws (rnd_nn h hp)
theorem fl_mono (h : 0 < m) {a b : Int} (hab : a ≤ b) : fl m ws a ≤ fl m ws b := lenW_mono ws (rnd_mono h hab)
theorem lenW_0 : ∀ ws : List Wd, lenW ws 0 = 0
  | [] => rfl
  | w :: r => by
    rw [lenW_cons, show w.size 0 = 0 by cases w <;> decide]
    exact lenW_0 r
theorem fl_0 (h : 0 < m) : fl m ws 0 = 0 := by
  unfold fl
  rw [rnd_0 h, lenW_0]
theorem fl_le (h : 0 < m) {p : Int} (hp : 0 ≤ p) : fl m ws p ≤ p + m - 1 := Int.le_trans (lenW_le ws (rnd_nn h hp)) (rnd_bd h hp).2.1
theorem fl_lip (h : 0 < m) {p : Int} (hp : 0 ≤ p) : fl m ws (p + 1) ≤ fl m ws p + m := by
  have h1 : fl m ws (p + 1) ≤ fl m ws (p + m) := fl_mono h (by omega)
  have h2 : fl m ws (p + m) ≤ fl m ws p + m := by
    unfold fl
    rw [rnd_add h (Int.dvd_refl m)]
    exact lenW_lip ws (rnd_nn h hp) (by omega)
  omega
theorem fl_shift (h : 0 < m) {p k : Int} (hp : 0 ≤ p) (hk : 0 ≤ k) (hd : m ∣ szW ws * k) : fl m ws (p + szW ws * k) ≤ fl m ws p + k ∧ (0 < fl m ws p → fl m ws (p + szW ws * k) = fl m ws p + k) := by
  unfold fl
  rw [rnd_add h hd]
  have h0 := rnd_nn h hp
  have h1 : 0 ≤ szW ws * k := Int.mul_nonneg (Int.le_of_lt (szW_pos ws)) hk
  exact lenW_shift ws h0 (by omega) hk (Int.le_refl _) fun _ => rfl
theorem fl_low (h : 0 < m) (hl : ws.length ≤ 10) {p : Int} (hp : 0 ≤ p) : p + 1 ≤ 1024 * (fl m ws p + 1) := by
  have h1 := lenW_low ws (rnd_nn h hp)
  have h2 := (rnd_bd h hp).2.2
  have h3 := fl_nn (ws := ws) h hp
  have h4 : (2 : Int) ^ ws.length ≤ 2 ^ 10 := by
    have : (2 : Nat) ^ ws.length ≤ 2 ^ 10 := Nat.pow_le_pow_right (by omega) hl
    exact_mod_cast this
  have h5 : (2 : Int) ^ ws.length * (fl m ws p + 1) ≤ 2 ^ 10 * (fl m ws p + 1) := Int.mul_le_mul_of_nonneg_right h4 (by omega)
  have h6 : rnd m p + 1 ≤ (2 : Int) ^ ws.length * (fl m ws p + 1) := h1
  have h7 : p ≤ rnd m p := h2
  omega
/-- the smallest number of pages with so many items -/
structure Lst (m : Int) (ws : List Wd) (it L : Int) : Prop where
  nn : 0 ≤ L
  ge : it ≤ fl m ws L
  lt : ∀ p, 0 ≤ p → p < L → fl m ws p < it
theorem Lst.uniq {it L L' : Int} (a : Lst m ws it L) (b : Lst m ws it L') : L = L' := by
  rcases Int.lt_trichotomy L L' with z | z | z
  · have := b.lt L a.nn z
    have := a.ge
    omega
  · exact z
  · have := a.lt L' b.nn z
    have := b.ge
    omega
theorem Lst.ex_of {it : Int} : ∀ n : Nat, it ≤ fl m ws n → ∃ L, Lst m ws it L := by
  intro n
  induction n using Nat.strongRecOn with
  | ind n ih =>
    intro h
    rcases Classical.em (∃ k : Nat, k < n ∧ it ≤ fl m ws k) with ⟨k, h1, h2⟩ | c
    · exact ih k h1 h2
    · refine ⟨n, by omega, h, fun p hp hlt => ?_⟩
      obtain ⟨j, rfl⟩ := Int.eq_ofNat_of_zero_le hp
      rcases Int.lt_or_le (fl m ws j) it with q | q
      · exact q
      · exact absurd ⟨j, by omega, q⟩ c
theorem fl_top (h : 0 < m) (hl : ws.length ≤ 10) {it : Int} (hi : 0 ≤ it) : it ≤ fl m ws (1024 * it + 16384) := by
  have := fl_low h hl (ws := ws) (p := 1024 * it + 16384) (by omega)
  omega
theorem Lst.ex (h : 0 < m) (hl : ws.length ≤ 10) {it : Int} (hi : 0 ≤ it) : ∃ L, Lst m ws it L := by
  refine Lst.ex_of (1024 * it + 16384).toNat ?_
  rw [Int.toNat_of_nonneg (by omega)]
  exact fl_top h hl hi
theorem Lst.le (h : 0 < m) (hl : ws.length ≤ 10) {it L : Int} (hi : 0 ≤ it) (a : Lst m ws it L) : L ≤ 1024 * it + 16384 := by
  rcases Int.lt_or_le (1024 * it + 16384) L with z | z
  · have := a.lt _ (by omega) z
    have := fl_top h hl (ws := ws) hi
    omega
  · exact z
theorem Lst.iff (h : 0 < m) {it L : Int} (a : Lst m ws it L) {p : Int} (hp : 0 ≤ p) : it ≤ fl m ws p ↔ L ≤ p := by
  constructor
  · intro q
    rcases Int.lt_or_le p L with z | z
    · have := a.lt p hp z
      omega
    · exact z
  · intro q
    exact Int.le_trans a.ge (fl_mono h q)
theorem Lst.of {it L : Int} (h : 0 < m) (h0 : 0 ≤ L) (h1 : it ≤ fl m ws L) (h2 : 0 < L → fl m ws (L - 1) < it) : Lst m ws it L :=
  ⟨h0, h1, fun p hp hlt => Int.lt_of_le_of_lt (fl_mono h (show p ≤ L - 1 by omega)) (h2 (by omega))⟩
end
end EV

set_option maxHeartbeats 4000000
/-! rows as lists -/
namespace EV
open PySem PySem.Spec PyProof.Rows L2
theorem compL_range {f : D → Sto → Option (Out (Option D))} {g : Int → Int} {s : Sto} {n : Int} (h : ∀ i : Nat, (i : Int) < n → f (.int i) s = some (.ok (some (.int (g i))) s)) :
    compL f (rngL 0 n) s = some (.ok (((List.range n.toNat).map fun i => g (i : Nat)).map .int) s) := by
  rw [compL_map (g := fun d => match d with
    | .int i => .int (g i)
    | d => d) fun x hx => ?_]
  · rw [rngL_map, List.map_map, List.map_map, Int.sub_zero]
    congr 3
    funext i
    simp
  · rw [rngL_map] at hx
    obtain ⟨i, hi, rfl⟩ := List.mem_map.mp hx
    rw [List.mem_range] at hi
    simp only [Int.zero_add]
    exact h i (by omega)
theorem items_of_ok {n : Nat} {p : Sp} {k : Int} {s : Sto} (h : p.s.natAbs < 2 ^ 60) (h0 : 0 ≤ p.n) (hn : p.n ≤ 10000) : cal GG (n + 2) i_items_of [spD p, .int k] s = some (.ok (.lst ((p.row k).map .int)) s) := by
  refine cal_pure Gi_items_of rfl rfl (by simp only [noloc, ints_noloc]) ?_
  show WPS (ex _ _ _ [some (spD p), some (.int k), none] s) _ _
  refine wps_seq (wps_ret ?_)
  have hs : small62 p.n := ⟨by omega, by omega⟩
  simp only [ev_var, ev_cint, ev_cstr, ev_cbl, ev_cnon, ev_g, ev_bin, ev_neg, ev_not, ev_cmp, ev_chn, ev_chn3, ev_dst, ev_revT, ev_stp, ev_lix, ev_err, ev_srt, ev_wlk, ev_lgn, lstO_ok, ev_gf, ev_isl, ev_fld, ev_mth, ev_msp, ev_prp, ev_oln, ev_con0, ev_con1, ev_cmt, ev_oeq, ev_isp, ev_ccn, okO_ok, ev_cav, ev_cpm, ev_and, ev_or, ev_ite, ev_tup, ev_lst, ev_call, ev_bi, ev_isi, ev_idx, ev_slc, ev_rev, ev_lrng, ev_lrng1, ev_dnew, ev_cpy, ev_comp, mkTup_ok, l_lens, l_len0, Nat.reduceLeDiff, Nat.reduceAdd, evs, evo, evi, bnd_ok, sbd_ok, pur_some, wpe_ok, wps_nx, wps_rt, b_add, b_sub, c_lt, c_le, c_gt, c_ge, c_eq, c_ne, c_in, c_nin, c_is, c_isnot, l_get0, l_gets, l_set0, l_sets, o_map, l_maps, l_map0, l_apps, l_app0, List.append_nil, spD, ix_tup, at_2, if_pos hs]
  rw [compL_range (g := fun i => p.item k i) fun i hi => by
    simp only [ev_var, ev_cint, ev_cstr, ev_cbl, ev_cnon, ev_g, ev_bin, ev_neg, ev_not, ev_cmp, ev_chn, ev_chn3, ev_dst, ev_revT, ev_stp, ev_lix, ev_err, ev_srt, ev_wlk, ev_lgn, lstO_ok, ev_gf, ev_isl, ev_fld, ev_mth, ev_msp, ev_prp, ev_oln, ev_con0, ev_con1, ev_cmt, ev_oeq, ev_isp, ev_ccn, okO_ok, ev_cav, ev_cpm, ev_and, ev_or, ev_ite, ev_tup, ev_lst, ev_call, ev_bi, ev_isi, ev_idx, ev_slc, ev_rev, ev_lrng, ev_lrng1, ev_dnew, ev_cpy, ev_comp, mkTup_ok, l_lens, l_len0, Nat.reduceLeDiff, Nat.reduceAdd, evs, evo, evi, bnd_ok, sbd_ok, pur_some, wpe_ok, wps_nx, wps_rt, b_add, b_sub, c_lt, c_le, c_gt, c_ge, c_eq, c_ne, c_in, c_nin, c_is, c_isnot, l_get0, l_gets, l_set0, l_sets, o_map, l_maps, l_map0, l_apps, l_app0, List.append_nil, item, bindT, wipeE]
    rw [show (D.tup [.int p.f, .int p.s, .int p.n]) = spD p from rfl, item_of_ok h]]
  have hl : (((List.range p.n.toNat).map fun i => p.item k (i : Nat)).map D.int).length ≤ sizeLine := by
    rw [List.length_map, List.length_map, List.length_range]
    have : sizeLine = 16777216 := rfl
    omega
  simp only [if_pos hl, ev_var, ev_cint, ev_cstr, ev_cbl, ev_cnon, ev_g, ev_bin, ev_neg, ev_not, ev_cmp, ev_chn, ev_chn3, ev_dst, ev_revT, ev_stp, ev_lix, ev_err, ev_srt, ev_wlk, ev_lgn, lstO_ok, ev_gf, ev_isl, ev_fld, ev_mth, ev_msp, ev_prp, ev_oln, ev_con0, ev_con1, ev_cmt, ev_oeq, ev_isp, ev_ccn, okO_ok, ev_cav, ev_cpm, ev_and, ev_or, ev_ite, ev_tup, ev_lst, ev_call, ev_bi, ev_isi, ev_idx, ev_slc, ev_rev, ev_lrng, ev_lrng1, ev_dnew, ev_cpy, ev_comp, mkTup_ok, l_lens, l_len0, Nat.reduceLeDiff, Nat.reduceAdd, evs, evo, evi, bnd_ok, sbd_ok, pur_some, wpe_ok, wps_nx, wps_rt, b_add, b_sub, c_lt, c_le, c_gt, c_ge, c_eq, c_ne, c_in, c_nin, c_is, c_isnot, l_get0, l_gets, l_set0, l_sets, o_map, l_maps, l_map0, l_apps, l_app0, List.append_nil, Sp.row, and_self]
def rowOf (m : Int) (ws : List Wd) (k : Int) : List Int := (spanOf m ws k).row k
theorem row_ok {n : Nat} {m k : Int} {ws : List Wd} {s : Sto} (h : JOk m ws) (h0 : 0 ≤ k) (hk : k ≤ 300) : cal GG (n + 5) i_row [jD m ws, .int k] s = some (.ok (.lst ((rowOf m ws k).map .int)) s) := by
  refine cal_pure Gi_row rfl rfl (by simp only [noloc, ints_noloc]) ?_
  show WPS (ex _ _ _ [some (jD m ws), some (.int k)] s) _ _
  have hm := h.1.pos
  have hl := h.2
  obtain ⟨o1, o2, _⟩ := spanOf_ok (ws := ws) hm.1 h0
  have o3 := spanOf_s (ws := ws) hm.1 h0 (by omega)
  refine wps_seq (wps_expr ?_)
  simp only [ev_var, ev_cint, ev_cstr, ev_cbl, ev_cnon, ev_g, ev_bin, ev_neg, ev_not, ev_cmp, ev_chn, ev_chn3, ev_dst, ev_revT, ev_stp, ev_lix, ev_err, ev_srt, ev_wlk, ev_lgn, lstO_ok, ev_gf, ev_isl, ev_fld, ev_mth, ev_msp, ev_prp, ev_oln, ev_con0, ev_con1, ev_cmt, ev_oeq, ev_isp, ev_ccn, okO_ok, ev_cav, ev_cpm, ev_and, ev_or, ev_ite, ev_tup, ev_lst, ev_call, ev_bi, ev_isi, ev_idx, ev_slc, ev_rev, ev_lrng, ev_lrng1, ev_dnew, ev_cpy, ev_comp, mkTup_ok, l_lens, l_len0, Nat.reduceLeDiff, Nat.reduceAdd, evs, evo, evi, bnd_ok, sbd_ok, pur_some, wpe_ok, wps_nx, wps_rt, b_add, b_sub, c_lt, c_le, c_gt, c_ge, c_eq, c_ne, c_in, c_nin, c_is, c_isnot, l_get0, l_gets, l_set0, l_sets, o_map, l_maps, l_map0, l_apps, l_app0, List.append_nil, need_job_ok h]
  refine wps_seq (wps_expr ?_)
  simp only [ev_var, ev_cint, ev_cstr, ev_cbl, ev_cnon, ev_g, ev_bin, ev_neg, ev_not, ev_cmp, ev_chn, ev_chn3, ev_dst, ev_revT, ev_stp, ev_lix, ev_err, ev_srt, ev_wlk, ev_lgn, lstO_ok, ev_gf, ev_isl, ev_fld, ev_mth, ev_msp, ev_prp, ev_oln, ev_con0, ev_con1, ev_cmt, ev_oeq, ev_isp, ev_ccn, okO_ok, ev_cav, ev_cpm, ev_and, ev_or, ev_ite, ev_tup, ev_lst, ev_call, ev_bi, ev_isi, ev_idx, ev_slc, ev_rev, ev_lrng, ev_lrng1, ev_dnew, ev_cpy, ev_comp, mkTup_ok, l_lens, l_len0, Nat.reduceLeDiff, Nat.reduceAdd, evs, evo, evi, bnd_ok, sbd_ok, pur_some, wpe_ok, wps_nx, wps_rt, b_add, b_sub, c_lt, c_le, c_gt, c_ge, c_eq, c_ne, c_in, c_nin, c_is, c_isnot, l_get0, l_gets, l_set0, l_sets, o_map, l_maps, l_map0, l_apps, l_app0, List.append_nil, cal_con Gi_SHORT, need_pages_ok h0 hk]
  refine wps_seq (wps_ret ?_)
  simp only [ev_var, ev_cint, ev_cstr, ev_cbl, ev_cnon, ev_g, ev_bin, ev_neg, ev_not, ev_cmp, ev_chn, ev_chn3, ev_dst, ev_revT, ev_stp, ev_lix, ev_err, ev_srt, ev_wlk, ev_lgn, lstO_ok, ev_gf, ev_isl, ev_fld, ev_mth, ev_msp, ev_prp, ev_oln, ev_con0, ev_con1, ev_cmt, ev_oeq, ev_isp, ev_ccn, okO_ok, ev_cav, ev_cpm, ev_and, ev_or, ev_ite, ev_tup, ev_lst, ev_call, ev_bi, ev_isi, ev_idx, ev_slc, ev_rev, ev_lrng, ev_lrng1, ev_dnew, ev_cpy, ev_comp, mkTup_ok, l_lens, l_len0, Nat.reduceLeDiff, Nat.reduceAdd, evs, evo, evi, bnd_ok, sbd_ok, pur_some, wpe_ok, wps_nx, wps_rt, b_add, b_sub, c_lt, c_le, c_gt, c_ge, c_eq, c_ne, c_in, c_nin, c_is, c_isnot, l_get0, l_gets, l_set0, l_sets, o_map, l_maps, l_map0, l_apps, l_app0, List.append_nil, span_of_ok (p := k) hm.1 (by omega) (by omega : ws.length ≤ 50), items_of_ok (k := k) (p := spanOf m ws k) (by omega) o1.n0 (by omega), rowOf, and_self]
end EV

set_option maxHeartbeats 4000000
/-! lengths, items, places; far draws -/
namespace EV
open PySem PySem.Spec PyProof.Rows L2
def longI : Int := 1000000000000000
theorem need_pages1_ok {n : Nat} {p : Int} {s : Sto} (h : 0 ≤ p) (h2 : p ≤ longI) : cal GG (n + 2) i_need_pages_1 [.int p] s = some (.ok .non s) := by
  refine cal_pure Gi_need_pages_1 rfl rfl rfl ?_
  show WPS (ex _ _ _ [some (.int p), some (.int longI)] s) _ _
  refine wps_seq (wps_if (b := false) (WPE.of_eq ?_) (fun z => absurd z (by decide)) fun _ => ?_)
  · simp only [ev_var, ev_cint, ev_cstr, ev_cbl, ev_cnon, ev_g, ev_bin, ev_neg, ev_not, ev_cmp, ev_chn, ev_chn3, ev_dst, ev_revT, ev_stp, ev_lix, ev_err, ev_srt, ev_wlk, ev_lgn, lstO_ok, ev_gf, ev_isl, ev_fld, ev_mth, ev_msp, ev_prp, ev_oln, ev_con0, ev_con1, ev_cmt, ev_oeq, ev_isp, ev_ccn, okO_ok, ev_cav, ev_cpm, ev_and, ev_or, ev_ite, ev_tup, ev_lst, ev_call, ev_bi, ev_isi, ev_idx, ev_slc, ev_rev, ev_lrng, ev_lrng1, ev_dnew, ev_cpy, ev_comp, mkTup_ok, l_lens, l_len0, Nat.reduceLeDiff, Nat.reduceAdd, evs, evo, evi, bnd_ok, sbd_ok, pur_some, wpe_ok, wps_nx, wps_rt, b_add, b_sub, c_lt, c_le, c_gt, c_ge, c_eq, c_ne, c_in, c_nin, c_is, c_isnot, l_get0, l_gets, l_set0, l_sets, o_map, l_maps, l_map0, l_apps, l_app0, List.append_nil, is_integer_int, decide_eq_true h, decide_eq_true h2, Bool.and_self, Bool.not_true]
  · exact wps_skip (wps_skip ⟨rfl, rfl⟩)
theorem length_ok {n : Nat} {m k : Int} {ws : List Wd} {s : Sto} (h : JOk m ws) (h0 : 0 ≤ k) (hk : k ≤ longI) : cal GG (n + 5) i_length [jD m ws, .int k] s = some (.ok (.int (spanOf m ws k).n) s) := by
  refine cal_pure Gi_length rfl rfl rfl ?_
  show WPS (ex _ _ _ [some (jD m ws), some (.int k)] s) _ _
  have hm := h.1.pos
  have hl := h.2
  refine wps_seq (wps_expr ?_)
  simp only [ev_var, ev_cint, ev_cstr, ev_cbl, ev_cnon, ev_g, ev_bin, ev_neg, ev_not, ev_cmp, ev_chn, ev_chn3, ev_dst, ev_revT, ev_stp, ev_lix, ev_err, ev_srt, ev_wlk, ev_lgn, lstO_ok, ev_gf, ev_isl, ev_fld, ev_mth, ev_msp, ev_prp, ev_oln, ev_con0, ev_con1, ev_cmt, ev_oeq, ev_isp, ev_ccn, okO_ok, ev_cav, ev_cpm, ev_and, ev_or, ev_ite, ev_tup, ev_lst, ev_call, ev_bi, ev_isi, ev_idx, ev_slc, ev_rev, ev_lrng, ev_lrng1, ev_dnew, ev_cpy, ev_comp, mkTup_ok, l_lens, l_len0, Nat.reduceLeDiff, Nat.reduceAdd, evs, evo, evi, bnd_ok, sbd_ok, pur_some, wpe_ok, wps_nx, wps_rt, b_add, b_sub, c_lt, c_le, c_gt, c_ge, c_eq, c_ne, c_in, c_nin, c_is, c_isnot, l_get0, l_gets, l_set0, l_sets, o_map, l_maps, l_map0, l_apps, l_app0, List.append_nil, need_job_ok h]
  refine wps_seq (wps_expr ?_)
  simp only [ev_var, ev_cint, ev_cstr, ev_cbl, ev_cnon, ev_g, ev_bin, ev_neg, ev_not, ev_cmp, ev_chn, ev_chn3, ev_dst, ev_revT, ev_stp, ev_lix, ev_err, ev_srt, ev_wlk, ev_lgn, lstO_ok, ev_gf, ev_isl, ev_fld, ev_mth, ev_msp, ev_prp, ev_oln, ev_con0, ev_con1, ev_cmt, ev_oeq, ev_isp, ev_ccn, okO_ok, ev_cav, ev_cpm, ev_and, ev_or, ev_ite, ev_tup, ev_lst, ev_call, ev_bi, ev_isi, ev_idx, ev_slc, ev_rev, ev_lrng, ev_lrng1, ev_dnew, ev_cpy, ev_comp, mkTup_ok, l_lens, l_len0, Nat.reduceLeDiff, Nat.reduceAdd, evs, evo, evi, bnd_ok, sbd_ok, pur_some, wpe_ok, wps_nx, wps_rt, b_add, b_sub, c_lt, c_le, c_gt, c_ge, c_eq, c_ne, c_in, c_nin, c_is, c_isnot, l_get0, l_gets, l_set0, l_sets, o_map, l_maps, l_map0, l_apps, l_app0, List.append_nil, need_pages1_ok h0 hk]
  refine wps_seq (wps_ret ?_)
  simp only [ev_var, ev_cint, ev_cstr, ev_cbl, ev_cnon, ev_g, ev_bin, ev_neg, ev_not, ev_cmp, ev_chn, ev_chn3, ev_dst, ev_revT, ev_stp, ev_lix, ev_err, ev_srt, ev_wlk, ev_lgn, lstO_ok, ev_gf, ev_isl, ev_fld, ev_mth, ev_msp, ev_prp, ev_oln, ev_con0, ev_con1, ev_cmt, ev_oeq, ev_isp, ev_ccn, okO_ok, ev_cav, ev_cpm, ev_and, ev_or, ev_ite, ev_tup, ev_lst, ev_call, ev_bi, ev_isi, ev_idx, ev_slc, ev_rev, ev_lrng, ev_lrng1, ev_dnew, ev_cpy, ev_comp, mkTup_ok, l_lens, l_len0, Nat.reduceLeDiff, Nat.reduceAdd, evs, evo, evi, bnd_ok, sbd_ok, pur_some, wpe_ok, wps_nx, wps_rt, b_add, b_sub, c_lt, c_le, c_gt, c_ge, c_eq, c_ne, c_in, c_nin, c_is, c_isnot, l_get0, l_gets, l_set0, l_sets, o_map, l_maps, l_map0, l_apps, l_app0, List.append_nil, span_of_ok (p := k) hm.1 (by omega) (by omega : ws.length ≤ 50), spD, ix_tup, at_2, and_self]
theorem page_at_ok {n : Nat} {m k i : Int} {ws : List Wd} {s : Sto} (h : JOk m ws) (h0 : 0 ≤ k) (hk : k ≤ longI) (hi : 0 ≤ i) (hi2 : i < (spanOf m ws k).n) : cal GG (n + 5) i_page_at [jD m ws, .int k, .int i] s = some (.ok (.int ((spanOf m ws k).item k i)) s) := by
  refine cal_pure Gi_page_at rfl rfl rfl ?_
  show WPS (ex _ _ _ [some (jD m ws), some (.int k), some (.int i), none] s) _ _
  have hm := h.1.pos
  have hl := h.2
  have o3 := spanOf_s (ws := ws) hm.1 h0 (by omega)
  refine wps_seq (wps_expr ?_)
  simp only [ev_var, ev_cint, ev_cstr, ev_cbl, ev_cnon, ev_g, ev_bin, ev_neg, ev_not, ev_cmp, ev_chn, ev_chn3, ev_dst, ev_revT, ev_stp, ev_lix, ev_err, ev_srt, ev_wlk, ev_lgn, lstO_ok, ev_gf, ev_isl, ev_fld, ev_mth, ev_msp, ev_prp, ev_oln, ev_con0, ev_con1, ev_cmt, ev_oeq, ev_isp, ev_ccn, okO_ok, ev_cav, ev_cpm, ev_and, ev_or, ev_ite, ev_tup, ev_lst, ev_call, ev_bi, ev_isi, ev_idx, ev_slc, ev_rev, ev_lrng, ev_lrng1, ev_dnew, ev_cpy, ev_comp, mkTup_ok, l_lens, l_len0, Nat.reduceLeDiff, Nat.reduceAdd, evs, evo, evi, bnd_ok, sbd_ok, pur_some, wpe_ok, wps_nx, wps_rt, b_add, b_sub, c_lt, c_le, c_gt, c_ge, c_eq, c_ne, c_in, c_nin, c_is, c_isnot, l_get0, l_gets, l_set0, l_sets, o_map, l_maps, l_map0, l_apps, l_app0, List.append_nil, need_job_ok h]
  refine wps_seq (wps_expr ?_)
  simp only [ev_var, ev_cint, ev_cstr, ev_cbl, ev_cnon, ev_g, ev_bin, ev_neg, ev_not, ev_cmp, ev_chn, ev_chn3, ev_dst, ev_revT, ev_stp, ev_lix, ev_err, ev_srt, ev_wlk, ev_lgn, lstO_ok, ev_gf, ev_isl, ev_fld, ev_mth, ev_msp, ev_prp, ev_oln, ev_con0, ev_con1, ev_cmt, ev_oeq, ev_isp, ev_ccn, okO_ok, ev_cav, ev_cpm, ev_and, ev_or, ev_ite, ev_tup, ev_lst, ev_call, ev_bi, ev_isi, ev_idx, ev_slc, ev_rev, ev_lrng, ev_lrng1, ev_dnew, ev_cpy, ev_comp, mkTup_ok, l_lens, l_len0, Nat.reduceLeDiff, Nat.reduceAdd, evs, evo, evi, bnd_ok, sbd_ok, pur_some, wpe_ok, wps_nx, wps_rt, b_add, b_sub, c_lt, c_le, c_gt, c_ge, c_eq, c_ne, c_in, c_nin, c_is, c_isnot, l_get0, l_gets, l_set0, l_sets, o_map, l_maps, l_map0, l_apps, l_app0, List.append_nil, need_pages1_ok h0 hk]
  refine wps_seq (wps_set ?_)
  simp only [ev_var, ev_cint, ev_cstr, ev_cbl, ev_cnon, ev_g, ev_bin, ev_neg, ev_not, ev_cmp, ev_chn, ev_chn3, ev_dst, ev_revT, ev_stp, ev_lix, ev_err, ev_srt, ev_wlk, ev_lgn, lstO_ok, ev_gf, ev_isl, ev_fld, ev_mth, ev_msp, ev_prp, ev_oln, ev_con0, ev_con1, ev_cmt, ev_oeq, ev_isp, ev_ccn, okO_ok, ev_cav, ev_cpm, ev_and, ev_or, ev_ite, ev_tup, ev_lst, ev_call, ev_bi, ev_isi, ev_idx, ev_slc, ev_rev, ev_lrng, ev_lrng1, ev_dnew, ev_cpy, ev_comp, mkTup_ok, l_lens, l_len0, Nat.reduceLeDiff, Nat.reduceAdd, evs, evo, evi, bnd_ok, sbd_ok, pur_some, wpe_ok, wps_nx, wps_rt, b_add, b_sub, c_lt, c_le, c_gt, c_ge, c_eq, c_ne, c_in, c_nin, c_is, c_isnot, l_get0, l_gets, l_set0, l_sets, o_map, l_maps, l_map0, l_apps, l_app0, List.append_nil, span_of_ok (p := k) hm.1 (by omega) (by omega : ws.length ≤ 50)]
  have e : ∀ s, idxD s (spD (spanOf m ws k)) (.int 2) = some (.int (spanOf m ws k).n) := fun s => by rw [spD, ix_tup, at_2]
  have hle : i ≤ (spanOf m ws k).n - 1 := by omega
  refine wps_seq (wps_if (b := false) (WPE.of_eq ?_) (fun z => absurd z (by decide)) fun _ => ?_)
  · simp only [ev_var, ev_cint, ev_cstr, ev_cbl, ev_cnon, ev_g, ev_bin, ev_neg, ev_not, ev_cmp, ev_chn, ev_chn3, ev_dst, ev_revT, ev_stp, ev_lix, ev_err, ev_srt, ev_wlk, ev_lgn, lstO_ok, ev_gf, ev_isl, ev_fld, ev_mth, ev_msp, ev_prp, ev_oln, ev_con0, ev_con1, ev_cmt, ev_oeq, ev_isp, ev_ccn, okO_ok, ev_cav, ev_cpm, ev_and, ev_or, ev_ite, ev_tup, ev_lst, ev_call, ev_bi, ev_isi, ev_idx, ev_slc, ev_rev, ev_lrng, ev_lrng1, ev_dnew, ev_cpy, ev_comp, mkTup_ok, l_lens, l_len0, Nat.reduceLeDiff, Nat.reduceAdd, evs, evo, evi, bnd_ok, sbd_ok, pur_some, wpe_ok, wps_nx, wps_rt, b_add, b_sub, c_lt, c_le, c_gt, c_ge, c_eq, c_ne, c_in, c_nin, c_is, c_isnot, l_get0, l_gets, l_set0, l_sets, o_map, l_maps, l_map0, l_apps, l_app0, List.append_nil, e, is_integer_int, decide_eq_true hi, decide_eq_true hle, Bool.and_self, Bool.not_true]
  · refine wps_skip (wps_seq (wps_ret ?_))
    simp only [ev_var, ev_cint, ev_cstr, ev_cbl, ev_cnon, ev_g, ev_bin, ev_neg, ev_not, ev_cmp, ev_chn, ev_chn3, ev_dst, ev_revT, ev_stp, ev_lix, ev_err, ev_srt, ev_wlk, ev_lgn, lstO_ok, ev_gf, ev_isl, ev_fld, ev_mth, ev_msp, ev_prp, ev_oln, ev_con0, ev_con1, ev_cmt, ev_oeq, ev_isp, ev_ccn, okO_ok, ev_cav, ev_cpm, ev_and, ev_or, ev_ite, ev_tup, ev_lst, ev_call, ev_bi, ev_isi, ev_idx, ev_slc, ev_rev, ev_lrng, ev_lrng1, ev_dnew, ev_cpy, ev_comp, mkTup_ok, l_lens, l_len0, Nat.reduceLeDiff, Nat.reduceAdd, evs, evo, evi, bnd_ok, sbd_ok, pur_some, wpe_ok, wps_nx, wps_rt, b_add, b_sub, c_lt, c_le, c_gt, c_ge, c_eq, c_ne, c_in, c_nin, c_is, c_isnot, l_get0, l_gets, l_set0, l_sets, o_map, l_maps, l_map0, l_apps, l_app0, List.append_nil, item_of_ok (p := spanOf m ws k) (k := k) (i := i) (by omega), and_self]
def indexD (p : Sp) (page : Int) : D := if 0 ≤ (page - p.f).fdiv p.s ∧ (page - p.f).fdiv p.s < p.n ∧ p.f + p.s * (page - p.f).fdiv p.s = page then .int ((page - p.f).fdiv p.s) else .non
theorem indexD_noloc (p : Sp) (page : Int) : noloc (indexD p page) = true := by
  unfold indexD
  split <;> rfl
theorem indexD_nice (p : Sp) (page : Int) (k : Nat) : nice k (indexD p page) = true := by
  unfold indexD
  split <;> cases k <;> rfl
theorem index_of_ok {n : Nat} {p : Sp} {page : Int} {s : Sto} (hs : p.s ≠ 0) (h : p.s.natAbs < 2 ^ 29) : cal GG (n + 1) i_index_of [spD p, .int page] s = some (.ok (indexD p page) s) := by
  refine cal_pure Gi_index_of rfl rfl (indexD_noloc p page) ?_
  show WPS (ex _ _ _ [some (.tup [.int p.f, .int p.s, .int p.n]), some (.int page), none, none, none, none] s) _ _
  have hk : ∀ j, CMul p.s j := fun j => cmul_l (by omega)
  have hd : ∀ j, CDivN j p.s := fun j => ⟨hs, by omega⟩
  refine wps_seq (wps_unp ?_)
  simp only [ev_var, ev_cint, ev_cstr, ev_cbl, ev_cnon, ev_g, ev_bin, ev_neg, ev_not, ev_cmp, ev_chn, ev_chn3, ev_dst, ev_revT, ev_stp, ev_lix, ev_err, ev_srt, ev_wlk, ev_lgn, lstO_ok, ev_gf, ev_isl, ev_fld, ev_mth, ev_msp, ev_prp, ev_oln, ev_con0, ev_con1, ev_cmt, ev_oeq, ev_isp, ev_ccn, okO_ok, ev_cav, ev_cpm, ev_and, ev_or, ev_ite, ev_tup, ev_lst, ev_call, ev_bi, ev_isi, ev_idx, ev_slc, ev_rev, ev_lrng, ev_lrng1, ev_dnew, ev_cpy, ev_comp, mkTup_ok, l_lens, l_len0, Nat.reduceLeDiff, Nat.reduceAdd, evs, evo, evi, bnd_ok, sbd_ok, pur_some, wpe_ok, wps_nx, wps_rt, b_add, b_sub, c_lt, c_le, c_gt, c_ge, c_eq, c_ne, c_in, c_nin, c_is, c_isnot, l_get0, l_gets, l_set0, l_sets, o_map, l_maps, l_map0, l_apps, l_app0, List.append_nil]
  refine ⟨_, rfl, ?_⟩
  refine wps_seq (wps_set ?_)
  simp only [ev_var, ev_cint, ev_cstr, ev_cbl, ev_cnon, ev_g, ev_bin, ev_neg, ev_not, ev_cmp, ev_chn, ev_chn3, ev_dst, ev_revT, ev_stp, ev_lix, ev_err, ev_srt, ev_wlk, ev_lgn, lstO_ok, ev_gf, ev_isl, ev_fld, ev_mth, ev_msp, ev_prp, ev_oln, ev_con0, ev_con1, ev_cmt, ev_oeq, ev_isp, ev_ccn, okO_ok, ev_cav, ev_cpm, ev_and, ev_or, ev_ite, ev_tup, ev_lst, ev_call, ev_bi, ev_isi, ev_idx, ev_slc, ev_rev, ev_lrng, ev_lrng1, ev_dnew, ev_cpy, ev_comp, mkTup_ok, l_lens, l_len0, Nat.reduceLeDiff, Nat.reduceAdd, evs, evo, evi, bnd_ok, sbd_ok, pur_some, wpe_ok, wps_nx, wps_rt, b_add, b_sub, c_lt, c_le, c_gt, c_ge, c_eq, c_ne, c_in, c_nin, c_is, c_isnot, l_get0, l_gets, l_set0, l_sets, o_map, l_maps, l_map0, l_apps, l_app0, List.append_nil, b_fdiv (hd _)]
  refine wps_seq (wps_ret ?_)
  simp only [ev_var, ev_cint, ev_cstr, ev_cbl, ev_cnon, ev_g, ev_bin, ev_neg, ev_not, ev_cmp, ev_chn, ev_chn3, ev_dst, ev_revT, ev_stp, ev_lix, ev_err, ev_srt, ev_wlk, ev_lgn, lstO_ok, ev_gf, ev_isl, ev_fld, ev_mth, ev_msp, ev_prp, ev_oln, ev_con0, ev_con1, ev_cmt, ev_oeq, ev_isp, ev_ccn, okO_ok, ev_cav, ev_cpm, ev_and, ev_or, ev_ite, ev_tup, ev_lst, ev_call, ev_bi, ev_isi, ev_idx, ev_slc, ev_rev, ev_lrng, ev_lrng1, ev_dnew, ev_cpy, ev_comp, mkTup_ok, l_lens, l_len0, Nat.reduceLeDiff, Nat.reduceAdd, evs, evo, evi, bnd_ok, sbd_ok, pur_some, wpe_ok, wps_nx, wps_rt, b_add, b_sub, c_lt, c_le, c_gt, c_ge, c_eq, c_ne, c_in, c_nin, c_is, c_isnot, l_get0, l_gets, l_set0, l_sets, o_map, l_maps, l_map0, l_apps, l_app0, List.append_nil]
  obtain ⟨q, hq⟩ : ∃ q, q = (page - p.f).fdiv p.s := ⟨_, rfl⟩
  unfold indexD
  rw [← hq]
  by_cases h1 : 0 ≤ q
  · by_cases h2 : q < p.n
    · by_cases h3 : p.f + p.s * q = page
      · simp only [ev_var, ev_cint, ev_cstr, ev_cbl, ev_cnon, ev_g, ev_bin, ev_neg, ev_not, ev_cmp, ev_chn, ev_chn3, ev_dst, ev_revT, ev_stp, ev_lix, ev_err, ev_srt, ev_wlk, ev_lgn, lstO_ok, ev_gf, ev_isl, ev_fld, ev_mth, ev_msp, ev_prp, ev_oln, ev_con0, ev_con1, ev_cmt, ev_oeq, ev_isp, ev_ccn, okO_ok, ev_cav, ev_cpm, ev_and, ev_or, ev_ite, ev_tup, ev_lst, ev_call, ev_bi, ev_isi, ev_idx, ev_slc, ev_rev, ev_lrng, ev_lrng1, ev_dnew, ev_cpy, ev_comp, mkTup_ok, l_lens, l_len0, Nat.reduceLeDiff, Nat.reduceAdd, evs, evo, evi, bnd_ok, sbd_ok, pur_some, wpe_ok, wps_nx, wps_rt, b_add, b_sub, c_lt, c_le, c_gt, c_ge, c_eq, c_ne, c_in, c_nin, c_is, c_isnot, l_get0, l_gets, l_set0, l_sets, o_map, l_maps, l_map0, l_apps, l_app0, List.append_nil, decide_eq_true h1, decide_eq_true h2, b_mul (hk _), eq_i, decide_eq_true h3, if_pos (And.intro h1 (And.intro h2 h3)), and_self]
      · simp only [ev_var, ev_cint, ev_cstr, ev_cbl, ev_cnon, ev_g, ev_bin, ev_neg, ev_not, ev_cmp, ev_chn, ev_chn3, ev_dst, ev_revT, ev_stp, ev_lix, ev_err, ev_srt, ev_wlk, ev_lgn, lstO_ok, ev_gf, ev_isl, ev_fld, ev_mth, ev_msp, ev_prp, ev_oln, ev_con0, ev_con1, ev_cmt, ev_oeq, ev_isp, ev_ccn, okO_ok, ev_cav, ev_cpm, ev_and, ev_or, ev_ite, ev_tup, ev_lst, ev_call, ev_bi, ev_isi, ev_idx, ev_slc, ev_rev, ev_lrng, ev_lrng1, ev_dnew, ev_cpy, ev_comp, mkTup_ok, l_lens, l_len0, Nat.reduceLeDiff, Nat.reduceAdd, evs, evo, evi, bnd_ok, sbd_ok, pur_some, wpe_ok, wps_nx, wps_rt, b_add, b_sub, c_lt, c_le, c_gt, c_ge, c_eq, c_ne, c_in, c_nin, c_is, c_isnot, l_get0, l_gets, l_set0, l_sets, o_map, l_maps, l_map0, l_apps, l_app0, List.append_nil, decide_eq_true h1, decide_eq_true h2, b_mul (hk _), eq_i, decide_eq_false h3, if_neg (fun z : 0 ≤ q ∧ q < p.n ∧ p.f + p.s * q = page => h3 z.2.2), and_self]
    · simp only [ev_var, ev_cint, ev_cstr, ev_cbl, ev_cnon, ev_g, ev_bin, ev_neg, ev_not, ev_cmp, ev_chn, ev_chn3, ev_dst, ev_revT, ev_stp, ev_lix, ev_err, ev_srt, ev_wlk, ev_lgn, lstO_ok, ev_gf, ev_isl, ev_fld, ev_mth, ev_msp, ev_prp, ev_oln, ev_con0, ev_con1, ev_cmt, ev_oeq, ev_isp, ev_ccn, okO_ok, ev_cav, ev_cpm, ev_and, ev_or, ev_ite, ev_tup, ev_lst, ev_call, ev_bi, ev_isi, ev_idx, ev_slc, ev_rev, ev_lrng, ev_lrng1, ev_dnew, ev_cpy, ev_comp, mkTup_ok, l_lens, l_len0, Nat.reduceLeDiff, Nat.reduceAdd, evs, evo, evi, bnd_ok, sbd_ok, pur_some, wpe_ok, wps_nx, wps_rt, b_add, b_sub, c_lt, c_le, c_gt, c_ge, c_eq, c_ne, c_in, c_nin, c_is, c_isnot, l_get0, l_gets, l_set0, l_sets, o_map, l_maps, l_map0, l_apps, l_app0, List.append_nil, decide_eq_true h1, decide_eq_false h2, if_neg (fun z : 0 ≤ q ∧ q < p.n ∧ p.f + p.s * q = page => h2 z.2.1), and_self]
  · simp only [ev_var, ev_cint, ev_cstr, ev_cbl, ev_cnon, ev_g, ev_bin, ev_neg, ev_not, ev_cmp, ev_chn, ev_chn3, ev_dst, ev_revT, ev_stp, ev_lix, ev_err, ev_srt, ev_wlk, ev_lgn, lstO_ok, ev_gf, ev_isl, ev_fld, ev_mth, ev_msp, ev_prp, ev_oln, ev_con0, ev_con1, ev_cmt, ev_oeq, ev_isp, ev_ccn, okO_ok, ev_cav, ev_cpm, ev_and, ev_or, ev_ite, ev_tup, ev_lst, ev_call, ev_bi, ev_isi, ev_idx, ev_slc, ev_rev, ev_lrng, ev_lrng1, ev_dnew, ev_cpy, ev_comp, mkTup_ok, l_lens, l_len0, Nat.reduceLeDiff, Nat.reduceAdd, evs, evo, evi, bnd_ok, sbd_ok, pur_some, wpe_ok, wps_nx, wps_rt, b_add, b_sub, c_lt, c_le, c_gt, c_ge, c_eq, c_ne, c_in, c_nin, c_is, c_isnot, l_get0, l_gets, l_set0, l_sets, o_map, l_maps, l_map0, l_apps, l_app0, List.append_nil, decide_eq_false h1, if_neg (fun z : 0 ≤ q ∧ q < p.n ∧ p.f + p.s * q = page => h1 z.1), and_self]
theorem place_of_ok {n : Nat} {m k page : Int} {ws : List Wd} {s : Sto} (h : JOk m ws) (hk : k ≤ longI) (hi : 1 ≤ page) (hi2 : page ≤ k) : cal GG (n + 5) i_place_of [jD m ws, .int k, .int page] s = some (.ok (indexD (spanOf m ws k) page) s) := by
  refine cal_pure Gi_place_of rfl rfl (indexD_noloc _ _) ?_
  show WPS (ex _ _ _ [some (jD m ws), some (.int k), some (.int page)] s) _ _
  have h0 : 0 ≤ k := by omega
  have hm := h.1.pos
  have hl := h.2
  have o1 := (spanOf_ok (ws := ws) hm.1 h0).1.s0
  have o3 := spanOf_s (ws := ws) hm.1 h0 (by omega)
  refine wps_seq (wps_expr ?_)
  simp only [ev_var, ev_cint, ev_cstr, ev_cbl, ev_cnon, ev_g, ev_bin, ev_neg, ev_not, ev_cmp, ev_chn, ev_chn3, ev_dst, ev_revT, ev_stp, ev_lix, ev_err, ev_srt, ev_wlk, ev_lgn, lstO_ok, ev_gf, ev_isl, ev_fld, ev_mth, ev_msp, ev_prp, ev_oln, ev_con0, ev_con1, ev_cmt, ev_oeq, ev_isp, ev_ccn, okO_ok, ev_cav, ev_cpm, ev_and, ev_or, ev_ite, ev_tup, ev_lst, ev_call, ev_bi, ev_isi, ev_idx, ev_slc, ev_rev, ev_lrng, ev_lrng1, ev_dnew, ev_cpy, ev_comp, mkTup_ok, l_lens, l_len0, Nat.reduceLeDiff, Nat.reduceAdd, evs, evo, evi, bnd_ok, sbd_ok, pur_some, wpe_ok, wps_nx, wps_rt, b_add, b_sub, c_lt, c_le, c_gt, c_ge, c_eq, c_ne, c_in, c_nin, c_is, c_isnot, l_get0, l_gets, l_set0, l_sets, o_map, l_maps, l_map0, l_apps, l_app0, List.append_nil, need_job_ok h]
  refine wps_seq (wps_expr ?_)
  simp only [ev_var, ev_cint, ev_cstr, ev_cbl, ev_cnon, ev_g, ev_bin, ev_neg, ev_not, ev_cmp, ev_chn, ev_chn3, ev_dst, ev_revT, ev_stp, ev_lix, ev_err, ev_srt, ev_wlk, ev_lgn, lstO_ok, ev_gf, ev_isl, ev_fld, ev_mth, ev_msp, ev_prp, ev_oln, ev_con0, ev_con1, ev_cmt, ev_oeq, ev_isp, ev_ccn, okO_ok, ev_cav, ev_cpm, ev_and, ev_or, ev_ite, ev_tup, ev_lst, ev_call, ev_bi, ev_isi, ev_idx, ev_slc, ev_rev, ev_lrng, ev_lrng1, ev_dnew, ev_cpy, ev_comp, mkTup_ok, l_lens, l_len0, Nat.reduceLeDiff, Nat.reduceAdd, evs, evo, evi, bnd_ok, sbd_ok, pur_some, wpe_ok, wps_nx, wps_rt, b_add, b_sub, c_lt, c_le, c_gt, c_ge, c_eq, c_ne, c_in, c_nin, c_is, c_isnot, l_get0, l_gets, l_set0, l_sets, o_map, l_maps, l_map0, l_apps, l_app0, List.append_nil, need_pages1_ok h0 hk]
  refine wps_seq (wps_if (b := false) (WPE.of_eq ?_) (fun z => absurd z (by decide)) fun _ => ?_)
  · simp only [ev_var, ev_cint, ev_cstr, ev_cbl, ev_cnon, ev_g, ev_bin, ev_neg, ev_not, ev_cmp, ev_chn, ev_chn3, ev_dst, ev_revT, ev_stp, ev_lix, ev_err, ev_srt, ev_wlk, ev_lgn, lstO_ok, ev_gf, ev_isl, ev_fld, ev_mth, ev_msp, ev_prp, ev_oln, ev_con0, ev_con1, ev_cmt, ev_oeq, ev_isp, ev_ccn, okO_ok, ev_cav, ev_cpm, ev_and, ev_or, ev_ite, ev_tup, ev_lst, ev_call, ev_bi, ev_isi, ev_idx, ev_slc, ev_rev, ev_lrng, ev_lrng1, ev_dnew, ev_cpy, ev_comp, mkTup_ok, l_lens, l_len0, Nat.reduceLeDiff, Nat.reduceAdd, evs, evo, evi, bnd_ok, sbd_ok, pur_some, wpe_ok, wps_nx, wps_rt, b_add, b_sub, c_lt, c_le, c_gt, c_ge, c_eq, c_ne, c_in, c_nin, c_is, c_isnot, l_get0, l_gets, l_set0, l_sets, o_map, l_maps, l_map0, l_apps, l_app0, List.append_nil, is_integer_int, decide_eq_true hi, decide_eq_true hi2, Bool.and_self, Bool.not_true]
  · refine wps_skip (wps_seq (wps_ret ?_))
    simp only [ev_var, ev_cint, ev_cstr, ev_cbl, ev_cnon, ev_g, ev_bin, ev_neg, ev_not, ev_cmp, ev_chn, ev_chn3, ev_dst, ev_revT, ev_stp, ev_lix, ev_err, ev_srt, ev_wlk, ev_lgn, lstO_ok, ev_gf, ev_isl, ev_fld, ev_mth, ev_msp, ev_prp, ev_oln, ev_con0, ev_con1, ev_cmt, ev_oeq, ev_isp, ev_ccn, okO_ok, ev_cav, ev_cpm, ev_and, ev_or, ev_ite, ev_tup, ev_lst, ev_call, ev_bi, ev_isi, ev_idx, ev_slc, ev_rev, ev_lrng, ev_lrng1, ev_dnew, ev_cpy, ev_comp, mkTup_ok, l_lens, l_len0, Nat.reduceLeDiff, Nat.reduceAdd, evs, evo, evi, bnd_ok, sbd_ok, pur_some, wpe_ok, wps_nx, wps_rt, b_add, b_sub, c_lt, c_le, c_gt, c_ge, c_eq, c_ne, c_in, c_nin, c_is, c_isnot, l_get0, l_gets, l_set0, l_sets, o_map, l_maps, l_map0, l_apps, l_app0, List.append_nil, span_of_ok (p := k) hm.1 (by omega) (by omega : ws.length ≤ 50), index_of_ok (p := spanOf m ws k) (page := page) o1 (by omega), and_self]
theorem indexD_at {p : Sp} {i : Int} (hs : p.s ≠ 0) (h0 : 0 ≤ i) (h1 : i < p.n) : indexD p (p.f + p.s * i) = .int i := by
  have e : (p.f + p.s * i - p.f).fdiv p.s = i := by
    rw [show p.f + p.s * i - p.f = p.s * i by omega]
    exact Int.mul_fdiv_cancel_left _ hs
  unfold indexD
  rw [e, if_pos ⟨h0, h1, rfl⟩]
theorem indexD_no {p : Sp} {page : Int} (h : ∀ i, 0 ≤ i → i < p.n → p.f + p.s * i ≠ page) : indexD p page = .non := by
  unfold indexD
  rw [if_neg fun z => h _ z.1 z.2.1 z.2.2]
theorem far_ok {n k p : Nat} {many : Int} {s : Sto} (hb : Bags k s) (hp : p < k) (hm : 1 ≤ many) (hm2 : many < 1000 ^ 10) : ∃ (r : Int) (s' : Sto), cal GG (n + 2) i_l_far_draw [.loc p, .int many] s = some (.ok (.int r) s') ∧ 0 ≤ r ∧ r < many ∧ Kb k s s' := by
  suffices h : WPE (cal GG (n + 2) i_l_far_draw [.loc p, .int many] s) fun r s1 => ∃ v, r = .int v ∧ 0 ≤ v ∧ v < many ∧ Kb k s s1 by
    obtain ⟨r, s1, e, v, rfl, h1, h2, h3⟩ := h
    exact ⟨v, s1, e, h1, h2, h3⟩
  refine cal_wp Gi_l_far_draw rfl ?_
  show WPS (ex _ _ _ [some (.loc p), some (.int many), none, none] s) _ _
  refine wps_seq (wps_par ?_)
  simp only [ev_var, ev_cint, ev_cstr, ev_cbl, ev_cnon, ev_g, ev_bin, ev_neg, ev_not, ev_cmp, ev_chn, ev_chn3, ev_dst, ev_revT, ev_stp, ev_lix, ev_err, ev_srt, ev_wlk, ev_lgn, lstO_ok, ev_gf, ev_isl, ev_fld, ev_mth, ev_msp, ev_prp, ev_oln, ev_con0, ev_con1, ev_cmt, ev_oeq, ev_isp, ev_ccn, okO_ok, ev_cav, ev_cpm, ev_and, ev_or, ev_ite, ev_tup, ev_lst, ev_call, ev_bi, ev_isi, ev_idx, ev_slc, ev_rev, ev_lrng, ev_lrng1, ev_dnew, ev_cpy, ev_comp, mkTup_ok, l_lens, l_len0, Nat.reduceLeDiff, Nat.reduceAdd, evs, evo, evi, bnd_ok, sbd_ok, pur_some, wpe_ok, wps_nx, wps_rt, b_add, b_sub, c_lt, c_le, c_gt, c_ge, c_eq, c_ne, c_in, c_nin, c_is, c_isnot, l_get0, l_gets, l_set0, l_sets, o_map, l_maps, l_map0, l_apps, l_app0, List.append_nil, if_true, le_size, fresh_f']
  refine ⟨_, rfl, ?_⟩
  simp only [ev_var, ev_cint, ev_cstr, ev_cbl, ev_cnon, ev_g, ev_bin, ev_neg, ev_not, ev_cmp, ev_chn, ev_chn3, ev_dst, ev_revT, ev_stp, ev_lix, ev_err, ev_srt, ev_wlk, ev_lgn, lstO_ok, ev_gf, ev_isl, ev_fld, ev_mth, ev_msp, ev_prp, ev_oln, ev_con0, ev_con1, ev_cmt, ev_oeq, ev_isp, ev_ccn, okO_ok, ev_cav, ev_cpm, ev_and, ev_or, ev_ite, ev_tup, ev_lst, ev_call, ev_bi, ev_isi, ev_idx, ev_slc, ev_rev, ev_lrng, ev_lrng1, ev_dnew, ev_cpy, ev_comp, mkTup_ok, l_lens, l_len0, Nat.reduceLeDiff, Nat.reduceAdd, evs, evo, evi, bnd_ok, sbd_ok, pur_some, wpe_ok, wps_nx, wps_rt, b_add, b_sub, c_lt, c_le, c_gt, c_ge, c_eq, c_ne, c_in, c_nin, c_is, c_isnot, l_get0, l_gets, l_set0, l_sets, o_map, l_maps, l_map0, l_apps, l_app0, List.append_nil, if_true, le_size, fresh_f']
  refine wps_seq (wps_whl (fun j ρ s1 => ∃ (found much : Int), ρ = [some (.loc p), some (.int many), some (.int found), some (.int much)] ∧ 0 ≤ much ∧ much < 1000 ^ j ∧ Kb k s s1) 10 400 ⟨0, many, rfl, by omega, by exact_mod_cast hm2, Kb.refl hb⟩ (by decide) ?_)
  rintro j ρ s1 ⟨found, much, rfl, h0, h1, hk⟩
  have h1000 : CMul 1000 found := cmul_l (by decide)
  have hd : CDivN much 1000 := ⟨by decide, by decide⟩
  by_cases z : 0 < much
  · simp only [ev_var, ev_cint, ev_cstr, ev_cbl, ev_cnon, ev_g, ev_bin, ev_neg, ev_not, ev_cmp, ev_chn, ev_chn3, ev_dst, ev_revT, ev_stp, ev_lix, ev_err, ev_srt, ev_wlk, ev_lgn, lstO_ok, ev_gf, ev_isl, ev_fld, ev_mth, ev_msp, ev_prp, ev_oln, ev_con0, ev_con1, ev_cmt, ev_oeq, ev_isp, ev_ccn, okO_ok, ev_cav, ev_cpm, ev_and, ev_or, ev_ite, ev_tup, ev_lst, ev_call, ev_bi, ev_isi, ev_idx, ev_slc, ev_rev, ev_lrng, ev_lrng1, ev_dnew, ev_cpy, ev_comp, mkTup_ok, l_lens, l_len0, Nat.reduceLeDiff, Nat.reduceAdd, evs, evo, evi, bnd_ok, sbd_ok, pur_some, wpe_ok, wps_nx, wps_rt, b_add, b_sub, c_lt, c_le, c_gt, c_ge, c_eq, c_ne, c_in, c_nin, c_is, c_isnot, l_get0, l_gets, l_set0, l_sets, o_map, l_maps, l_map0, l_apps, l_app0, List.append_nil, if_true, le_size, fresh_f', decide_eq_true z]
    refine .inr ⟨trivial, ?_⟩
    cases j with
    | zero =>
      exfalso
      have : much < 1 := h1
      omega
    | succ j =>
      refine ⟨j, rfl, ?_⟩
      obtain ⟨r2, s2, e2, a2, b2, k2⟩ := take_ok (n := n) (many := 1000) hk.bag hp (by decide)
      refine wps_seq (wps_par ?_)
      simp only [ev_var, ev_cint, ev_cstr, ev_cbl, ev_cnon, ev_g, ev_bin, ev_neg, ev_not, ev_cmp, ev_chn, ev_chn3, ev_dst, ev_revT, ev_stp, ev_lix, ev_err, ev_srt, ev_wlk, ev_lgn, lstO_ok, ev_gf, ev_isl, ev_fld, ev_mth, ev_msp, ev_prp, ev_oln, ev_con0, ev_con1, ev_cmt, ev_oeq, ev_isp, ev_ccn, okO_ok, ev_cav, ev_cpm, ev_and, ev_or, ev_ite, ev_tup, ev_lst, ev_call, ev_bi, ev_isi, ev_idx, ev_slc, ev_rev, ev_lrng, ev_lrng1, ev_dnew, ev_cpy, ev_comp, mkTup_ok, l_lens, l_len0, Nat.reduceLeDiff, Nat.reduceAdd, evs, evo, evi, bnd_ok, sbd_ok, pur_some, wpe_ok, wps_nx, wps_rt, b_add, b_sub, c_lt, c_le, c_gt, c_ge, c_eq, c_ne, c_in, c_nin, c_is, c_isnot, l_get0, l_gets, l_set0, l_sets, o_map, l_maps, l_map0, l_apps, l_app0, List.append_nil, if_true, le_size, fresh_f', b_mul h1000, e2, b_fdiv hd]
      refine ⟨_, rfl, ?_⟩
      simp only [ev_var, ev_cint, ev_cstr, ev_cbl, ev_cnon, ev_g, ev_bin, ev_neg, ev_not, ev_cmp, ev_chn, ev_chn3, ev_dst, ev_revT, ev_stp, ev_lix, ev_err, ev_srt, ev_wlk, ev_lgn, lstO_ok, ev_gf, ev_isl, ev_fld, ev_mth, ev_msp, ev_prp, ev_oln, ev_con0, ev_con1, ev_cmt, ev_oeq, ev_isp, ev_ccn, okO_ok, ev_cav, ev_cpm, ev_and, ev_or, ev_ite, ev_tup, ev_lst, ev_call, ev_bi, ev_isi, ev_idx, ev_slc, ev_rev, ev_lrng, ev_lrng1, ev_dnew, ev_cpy, ev_comp, mkTup_ok, l_lens, l_len0, Nat.reduceLeDiff, Nat.reduceAdd, evs, evo, evi, bnd_ok, sbd_ok, pur_some, wpe_ok, wps_nx, wps_rt, b_add, b_sub, c_lt, c_le, c_gt, c_ge, c_eq, c_ne, c_in, c_nin, c_is, c_isnot, l_get0, l_gets, l_set0, l_sets, o_map, l_maps, l_map0, l_apps, l_app0, List.append_nil, if_true, le_size, fresh_f']
      refine wps_skip ⟨_, _, rfl, ?_, ?_, hk.trans k2⟩
      · rw [Int.fdiv_eq_ediv_of_nonneg _ (by decide)]
        omega
      · rw [Int.fdiv_eq_ediv_of_nonneg _ (by decide)]
        rw [Int.pow_succ] at h1
        omega
  · simp only [ev_var, ev_cint, ev_cstr, ev_cbl, ev_cnon, ev_g, ev_bin, ev_neg, ev_not, ev_cmp, ev_chn, ev_chn3, ev_dst, ev_revT, ev_stp, ev_lix, ev_err, ev_srt, ev_wlk, ev_lgn, lstO_ok, ev_gf, ev_isl, ev_fld, ev_mth, ev_msp, ev_prp, ev_oln, ev_con0, ev_con1, ev_cmt, ev_oeq, ev_isp, ev_ccn, okO_ok, ev_cav, ev_cpm, ev_and, ev_or, ev_ite, ev_tup, ev_lst, ev_call, ev_bi, ev_isi, ev_idx, ev_slc, ev_rev, ev_lrng, ev_lrng1, ev_dnew, ev_cpy, ev_comp, mkTup_ok, l_lens, l_len0, Nat.reduceLeDiff, Nat.reduceAdd, evs, evo, evi, bnd_ok, sbd_ok, pur_some, wpe_ok, wps_nx, wps_rt, b_add, b_sub, c_lt, c_le, c_gt, c_ge, c_eq, c_ne, c_in, c_nin, c_is, c_isnot, l_get0, l_gets, l_set0, l_sets, o_map, l_maps, l_map0, l_apps, l_app0, List.append_nil, if_true, le_size, fresh_f', decide_eq_false z]
    refine .inl ⟨trivial, ?_⟩
    have hmn : many ≠ 0 := by omega
    obtain ⟨r2, s2, e2, a2, b2, k2⟩ := take_ok (n := n) (many := 4) hk.bag hp (by decide)
    have hk2 := hk.trans k2
    have g0 : 0 ≤ found.fmod many := Int.fmod_nonneg_of_pos _ (by omega)
    have g1 : found.fmod many < many := Int.fmod_lt_of_pos _ (by omega)
    obtain ⟨v, hv, v0, v1⟩ : ∃ v : Int, (∀ s, idxD s (.lst [.int (found.fmod many), .int 0, .int (many - 1), .int (found.fmod many)]) (.int r2) = some (.int v)) ∧ 0 ≤ v ∧ v < many := by
      rcases (by omega : r2 = 0 ∨ r2 = 1 ∨ r2 = 2 ∨ r2 = 3) with rfl | rfl | rfl | rfl
      · exact ⟨_, fun s => rfl, g0, g1⟩
      · exact ⟨_, fun s => rfl, by omega, by omega⟩
      · exact ⟨_, fun s => rfl, by omega, by omega⟩
      · exact ⟨_, fun s => rfl, g0, g1⟩
    refine wps_seq (wps_ret ?_)
    simp only [ev_var, ev_cint, ev_cstr, ev_cbl, ev_cnon, ev_g, ev_bin, ev_neg, ev_not, ev_cmp, ev_chn, ev_chn3, ev_dst, ev_revT, ev_stp, ev_lix, ev_err, ev_srt, ev_wlk, ev_lgn, lstO_ok, ev_gf, ev_isl, ev_fld, ev_mth, ev_msp, ev_prp, ev_oln, ev_con0, ev_con1, ev_cmt, ev_oeq, ev_isp, ev_ccn, okO_ok, ev_cav, ev_cpm, ev_and, ev_or, ev_ite, ev_tup, ev_lst, ev_call, ev_bi, ev_isi, ev_idx, ev_slc, ev_rev, ev_lrng, ev_lrng1, ev_dnew, ev_cpy, ev_comp, mkTup_ok, l_lens, l_len0, Nat.reduceLeDiff, Nat.reduceAdd, evs, evo, evi, bnd_ok, sbd_ok, pur_some, wpe_ok, wps_nx, wps_rt, b_add, b_sub, c_lt, c_le, c_gt, c_ge, c_eq, c_ne, c_in, c_nin, c_is, c_isnot, l_get0, l_gets, l_set0, l_sets, o_map, l_maps, l_map0, l_apps, l_app0, List.append_nil, if_true, le_size, fresh_f', b_mod hmn, e2, hv]
    refine WPE.mk (fin_keep rfl ?_) ⟨v, rfl, v0, v1, hk2⟩
    rw [← hk2.len, List.take_length]
end EV

set_option maxHeartbeats 4000000
set_option pp.maxSteps 300
/-! piles -/
namespace EV
open PySem PySem.Spec PyProof.Rows L2
/-- a state: the words so far, the row's first item, difference and length -/
abbrev St2 : Type := List Wd × Sp
def stD (q : St2) : D := .tup [.tup (q.1.map wD), spD q.2]
def shD (k : Int) (q : St2) : D := .tup ((q.2.row k).map .int)
def pilF (p : Nat) (k m : Int) : List (Str × D) := [("start", .tup [.int k, .int m]), ("states", .loc (p + 1)), ("shown", .loc (p + 2))]
/-- a pile at p -/
structure IsPile (s : Sto) (p : Nat) (k m : Int) (sts : List St2) : Prop where
  ins : s[p]? = some (.ins (pilF p k m))
  sta : s[p + 1]? = some (.lst (sts.map stD))
  sho : s[p + 2]? = some (.lst (sts.map (shD k)))
def pilC (p : Nat) (k m : Int) (sts : List St2) : Sto := [.ins (pilF p k m), .lst (sts.map stD), .lst (sts.map (shD k))]
theorem pilC_at {s : Sto} {k m : Int} {sts : List St2} : IsPile (s ++ pilC s.length k m sts) s.length k m sts := by
  refine ⟨?_, ?_, ?_⟩
  · rw [List.getElem?_append_right (by omega), Nat.sub_self]
    rfl
  · rw [List.getElem?_append_right (by omega), show s.length + 1 - s.length = 1 by omega]
    rfl
  · rw [List.getElem?_append_right (by omega), show s.length + 2 - s.length = 2 by omega]
    rfl
section
variable {s : Sto} {p : Nat} {k m : Int} {sts : List St2}
theorem IsPile.isp (h : IsPile s p k m sts) : isPil s (.loc p) = true := by simp only [isPil, h.ins]
theorem IsPile.start (h : IsPile s p k m sts) : fldD s (.loc p) "start" = some (.tup [.int k, .int m]) := by
  simp only [fldD, h.ins]
  rfl
theorem IsPile.states (h : IsPile s p k m sts) : fldD s (.loc p) "states" = some (.loc (p + 1)) := by
  simp only [fldD, h.ins]
  rfl
theorem IsPile.shown (h : IsPile s p k m sts) : fldD s (.loc p) "shown" = some (.loc (p + 2)) := by
  simp only [fldD, h.ins]
  rfl
theorem ix_lo {n : Nat} {xs : List D} {j : Int} (h : s[n]? = some (.lst xs)) : idxD s (.loc n) (.int j) = atI xs j := by
  have e : deref s (.loc n) = .lst xs := by simp only [deref, h]
  show (match deref s (.loc n) with
    | .lst xs => atI xs j
    | _ => dctD s (.loc n) (.int j)) = _
  rw [e]
theorem at_lastD {xs : List D} {x : D} : atI (xs ++ [x]) (-1) = some x := by
  have hl : (xs ++ [x]).length = xs.length + 1 := by simp
  unfold atI ixN
  rw [hl, if_neg (by decide), if_pos (by omega)]
  have e : ((-1 : Int) + ((xs.length + 1 : Nat) : Int)).toNat = xs.length := by omega
  rw [e]
  simp
theorem IsPile.last_st {q : St2} (h : IsPile s p k m (sts ++ [q])) : idxD s (.loc (p + 1)) (.int (-1)) = some (stD q) := by
  rw [ix_lo h.sta, List.map_append]
  exact at_lastD
theorem IsPile.last_sh {q : St2} (h : IsPile s p k m (sts ++ [q])) : idxD s (.loc (p + 2)) (.int (-1)) = some (shD k q) := by
  rw [ix_lo h.sho, List.map_append]
  exact at_lastD
theorem stD_noloc (q : St2) : noloc (stD q) = true := by simp only [stD, noloc, nolocs, wds_noloc, spD_noloc, Bool.and_self]
theorem shD_noloc (q : St2) : noloc (shD k q) = true := by simp only [shD, noloc, ints_noloc]
theorem bi_tup {xs : List D} : biD .tuple s [.lst xs] = some (.tup xs) := nr rfl
theorem bi_lenT {xs : List D} : biD .len s [.tup xs] = some (.int (xs.length : Nat)) := nr rfl
/-- row, words, len of a pile -/
theorem pil_row {n : Nat} {ws : List Wd} {P : Sp} (h : IsPile s p k m (sts ++ [(ws, P)])) : cal GG (n + 2) i_m_row [.loc p] s = some (.ok (.tup ((P.row k).map .int)) s) := by
  rw [cal_mth Gi_m_row]
  refine WPE.eq (run_wp rfl ?_)
  show WPS (ex _ _ _ [some (.loc p)] s) _ _
  refine wps_seq (wps_ret ?_)
  simp only [ev_var, ev_cint, ev_cstr, ev_cbl, ev_cnon, ev_g, ev_bin, ev_neg, ev_not, ev_cmp, ev_chn, ev_chn3, ev_dst, ev_revT, ev_stp, ev_lix, ev_err, ev_srt, ev_wlk, ev_lgn, lstO_ok, ev_gf, ev_isl, ev_fld, ev_mth, ev_msp, ev_prp, ev_oln, ev_con0, ev_con1, ev_cmt, ev_oeq, ev_isp, ev_ccn, okO_ok, ev_cav, ev_cpm, ev_and, ev_or, ev_ite, ev_tup, ev_lst, ev_call, ev_bi, ev_isi, ev_idx, ev_slc, ev_rev, ev_lrng, ev_lrng1, ev_dnew, ev_cpy, ev_comp, mkTup_ok, l_lens, l_len0, Nat.reduceLeDiff, Nat.reduceAdd, evs, evo, evi, bnd_ok, sbd_ok, pur_some, wpe_ok, wps_nx, wps_rt, b_add, b_sub, c_lt, c_le, c_gt, c_ge, c_eq, c_ne, c_in, c_nin, c_is, c_isnot, l_get0, l_gets, l_set0, l_sets, o_map, l_maps, l_map0, l_apps, l_app0, List.append_nil, h.shown, h.last_sh]
  exact WPE.mk (fin_pure (shD_noloc _)) ⟨rfl, rfl⟩
theorem pil_words {n : Nat} {ws : List Wd} {P : Sp} (h : IsPile s p k m (sts ++ [(ws, P)])) : cal GG (n + 2) i_m_words [.loc p] s = some (.ok (.tup (ws.map wD)) s) := by
  rw [cal_mth Gi_m_words]
  refine WPE.eq (run_wp rfl ?_)
  show WPS (ex _ _ _ [some (.loc p)] s) _ _
  refine wps_seq (wps_ret ?_)
  simp only [ev_var, ev_cint, ev_cstr, ev_cbl, ev_cnon, ev_g, ev_bin, ev_neg, ev_not, ev_cmp, ev_chn, ev_chn3, ev_dst, ev_revT, ev_stp, ev_lix, ev_err, ev_srt, ev_wlk, ev_lgn, lstO_ok, ev_gf, ev_isl, ev_fld, ev_mth, ev_msp, ev_prp, ev_oln, ev_con0, ev_con1, ev_cmt, ev_oeq, ev_isp, ev_ccn, okO_ok, ev_cav, ev_cpm, ev_and, ev_or, ev_ite, ev_tup, ev_lst, ev_call, ev_bi, ev_isi, ev_idx, ev_slc, ev_rev, ev_lrng, ev_lrng1, ev_dnew, ev_cpy, ev_comp, mkTup_ok, l_lens, l_len0, Nat.reduceLeDiff, Nat.reduceAdd, evs, evo, evi, bnd_ok, sbd_ok, pur_some, wpe_ok, wps_nx, wps_rt, b_add, b_sub, c_lt, c_le, c_gt, c_ge, c_eq, c_ne, c_in, c_nin, c_is, c_isnot, l_get0, l_gets, l_set0, l_sets, o_map, l_maps, l_map0, l_apps, l_app0, List.append_nil, h.states, h.last_st, stD, ix_tup, at_0]
  exact WPE.mk (fin_pure (by simp only [noloc, wds_noloc])) ⟨rfl, rfl⟩
theorem pil_len {n : Nat} {ws : List Wd} {P : Sp} (h : IsPile s p k m (sts ++ [(ws, P)])) : cal GG (n + 2) i_m_len [.loc p] s = some (.ok (.int ((P.row k).length : Nat)) s) := by
  rw [cal_mth Gi_m_len]
  refine WPE.eq (run_wp rfl ?_)
  show WPS (ex _ _ _ [some (.loc p)] s) _ _
  refine wps_seq (wps_ret ?_)
  simp only [ev_var, ev_cint, ev_cstr, ev_cbl, ev_cnon, ev_g, ev_bin, ev_neg, ev_not, ev_cmp, ev_chn, ev_chn3, ev_dst, ev_revT, ev_stp, ev_lix, ev_err, ev_srt, ev_wlk, ev_lgn, lstO_ok, ev_gf, ev_isl, ev_fld, ev_mth, ev_msp, ev_prp, ev_oln, ev_con0, ev_con1, ev_cmt, ev_oeq, ev_isp, ev_ccn, okO_ok, ev_cav, ev_cpm, ev_and, ev_or, ev_ite, ev_tup, ev_lst, ev_call, ev_bi, ev_isi, ev_idx, ev_slc, ev_rev, ev_lrng, ev_lrng1, ev_dnew, ev_cpy, ev_comp, mkTup_ok, l_lens, l_len0, Nat.reduceLeDiff, Nat.reduceAdd, evs, evo, evi, bnd_ok, sbd_ok, pur_some, wpe_ok, wps_nx, wps_rt, b_add, b_sub, c_lt, c_le, c_gt, c_ge, c_eq, c_ne, c_in, c_nin, c_is, c_isnot, l_get0, l_gets, l_set0, l_sets, o_map, l_maps, l_map0, l_apps, l_app0, List.append_nil, h.shown, h.last_sh, shD, bi_lenT, List.length_map]
  exact WPE.mk (fin_pure rfl) ⟨rfl, rfl⟩
theorem row_len8 {P : Sp} : (P.row k).length = P.n.toNat := by rw [Sp.row, List.length_map, List.length_range]
/-- words are applied -/
theorem apply_ok {n : Nat} {ws0 ws : List Wd} {P : Sp} (h : IsPile s p k m (sts ++ [(ws0, P)])) (hP : P.Ok) (hs : P.s.natAbs < 2 ^ 40) (hn : P.n ≤ 10000) (hw : ws.length ≤ 10) (hw0 : ws0.length ≤ 1000) (hst : sts.length ≤ 1000) :
    ∃ s', cal GG (n + 4) i_m_apply (.loc p :: ws.map wD) s = some (.ok (.int (ws.foldl Sp.after P).n) s') ∧ IsPile s' p k m (sts ++ [(ws0, P)] ++ [(ws0 ++ ws, ws.foldl Sp.after P)]) ∧ s'.length = s.length ∧ ∀ q, q ≠ p + 1 → q ≠ p + 2 → s'[q]? = s[q]? := by
  obtain ⟨P', hP'⟩ : ∃ P', P' = ws.foldl Sp.after P := ⟨_, rfl⟩
  obtain ⟨o1, o2, o3⟩ := fold_ok ws P hP
  have hsz : sizeLine = 16777216 := rfl
  have h10 : (2 : Nat) ^ ws.length ≤ 2 ^ 10 := Nat.pow_le_pow_right (by omega) hw
  have o4 : P'.s.natAbs < 2 ^ 60 := by
    rw [hP']
    calc (ws.foldl Sp.after P).s.natAbs ≤ 2 ^ ws.length * P.s.natAbs := o3
      _ ≤ 2 ^ 10 * P.s.natAbs := Nat.mul_le_mul_right _ h10
      _ < 2 ^ 60 := by omega
  rw [← hP'] at o1 o2 ⊢
  have n0 := o1.n0
  have hl1 : p + 1 < s.length := (List.getElem?_eq_some_iff.mp h.sta).1
  have hl2 : p + 2 < s.length := (List.getElem?_eq_some_iff.mp h.sho).1
  obtain ⟨s1, hs1⟩ : ∃ s1, s1 = s.set (p + 1) (.lst ((sts ++ [(ws0, P)]).map stD ++ [stD (ws0 ++ ws, P')])) := ⟨_, rfl⟩
  obtain ⟨s2, hs2⟩ : ∃ s2, s2 = s1.set (p + 2) (.lst ((sts ++ [(ws0, P)]).map (shD k) ++ [shD k (ws0 ++ ws, P')])) := ⟨_, rfl⟩
  have g1 : ∀ q, q ≠ p + 1 → s1[q]? = s[q]? := fun q hq => by rw [hs1, List.getElem?_set_ne (by omega)]
  have g2 : ∀ q, q ≠ p + 2 → s2[q]? = s1[q]? := fun q hq => by rw [hs2, List.getElem?_set_ne (by omega)]
  have len1 : s1.length = s.length := by rw [hs1, List.length_set]
  have len2 : s2.length = s.length := by rw [hs2, List.length_set, len1]
  have i1 : s1[p]? = some (.ins (pilF p k m)) := by rw [g1 p (by omega)]; exact h.ins
  have i2 : s1[p + 2]? = some (.lst ((sts ++ [(ws0, P)]).map (shD k))) := by rw [g1 _ (by omega)]; exact h.sho
  have f1 : fldD s1 (.loc p) "shown" = some (.loc (p + 2)) := by
    simp only [fldD, i1]
    rfl
  have f2 : fldD s1 (.loc p) "start" = some (.tup [.int k, .int m]) := by
    simp only [fldD, i1]
    rfl
  have is1 : isLst s (.loc (p + 1)) = true := by simp only [isLst, h.sta]
  have is2 : isLst s1 (.loc (p + 2)) = true := by simp only [isLst, i2]
  have a1 : ∀ L, appD L (.loc (p + 1)) (stD (ws0 ++ ws, P')) s = some s1 := fun L => by
    simp only [appD, h.sta]
    rw [if_pos (by rw [List.length_map, List.length_append, List.length_singleton]; omega)]
    simp only [wr, stD_noloc, or_true, if_true, hs1]
  have a2 : ∀ L, appD L (.loc (p + 2)) (shD k (ws0 ++ ws, P')) s1 = some s2 := fun L => by
    simp only [appD, i2]
    rw [if_pos (by rw [List.length_map, List.length_append, List.length_singleton]; omega)]
    simp only [wr, shD_noloc, or_true, if_true, hs2]
  refine ⟨s2, ?_, ⟨?_, ?_, ?_⟩, len2, fun q h1 h2 => (g2 q h2).trans (g1 q h1)⟩
  · rw [cal_mthv Gi_m_apply _ _ (by simp) (by simp; omega)]
    refine WPE.eq (run_wp rfl ?_)
    show WPS (ex _ _ _ [some (.loc p), some (.tup (ws.map wD)), none, none, none] s) _ _
    have hall : ∀ ρ2 : Env, ρ2 = [some (.loc p), some (.tup (ws.map wD)), none, none, none] → compL (item (cal GG (n + 2)) (.tnm 4) (.call i_is_word (.cons (.var 4) .nil)) (.cbl true) [4] ρ2) (ws.map wD) s = some (.ok ((ws.map wD).map fun _ => .bl true) s) := fun ρ2 hρ => by
      subst hρ
      exact compL_map (g := fun _ => .bl true) fun x hx => by
        obtain ⟨w, _, rfl⟩ := List.mem_map.mp hx
        simp only [ev_var, ev_cint, ev_cstr, ev_cbl, ev_cnon, ev_g, ev_bin, ev_neg, ev_not, ev_cmp, ev_chn, ev_chn3, ev_dst, ev_revT, ev_stp, ev_lix, ev_err, ev_srt, ev_wlk, ev_lgn, lstO_ok, ev_gf, ev_isl, ev_fld, ev_mth, ev_msp, ev_prp, ev_oln, ev_con0, ev_con1, ev_cmt, ev_oeq, ev_isp, ev_ccn, okO_ok, ev_cav, ev_cpm, ev_and, ev_or, ev_ite, ev_tup, ev_lst, ev_call, ev_bi, ev_isi, ev_idx, ev_slc, ev_rev, ev_lrng, ev_lrng1, ev_dnew, ev_cpy, ev_comp, mkTup_ok, l_lens, l_len0, Nat.reduceLeDiff, Nat.reduceAdd, evs, evo, evi, bnd_ok, sbd_ok, pur_some, wpe_ok, wps_nx, wps_rt, b_add, b_sub, c_lt, c_le, c_gt, c_ge, c_eq, c_ne, c_in, c_nin, c_is, c_isnot, l_get0, l_gets, l_set0, l_sets, o_map, l_maps, l_map0, l_apps, l_app0, List.append_nil, item, bindT, wipeE, is_word_ok]
    have hsz2 : ((ws.map wD).map fun _ => D.bl true).length ≤ sizeLine := by
      rw [List.length_map, List.length_map]
      omega
    refine wps_seq (wps_if (b := false) (WPE.of_eq ?_) (fun z => absurd z (by decide)) fun _ => ?_)
    · simp only [ev_var, ev_cint, ev_cstr, ev_cbl, ev_cnon, ev_g, ev_bin, ev_neg, ev_not, ev_cmp, ev_chn, ev_chn3, ev_dst, ev_revT, ev_stp, ev_lix, ev_err, ev_srt, ev_wlk, ev_lgn, lstO_ok, ev_gf, ev_isl, ev_fld, ev_mth, ev_msp, ev_prp, ev_oln, ev_con0, ev_con1, ev_cmt, ev_oeq, ev_isp, ev_ccn, okO_ok, ev_cav, ev_cpm, ev_and, ev_or, ev_ite, ev_tup, ev_lst, ev_call, ev_bi, ev_isi, ev_idx, ev_slc, ev_rev, ev_lrng, ev_lrng1, ev_dnew, ev_cpy, ev_comp, mkTup_ok, l_lens, l_len0, Nat.reduceLeDiff, Nat.reduceAdd, evs, evo, evi, bnd_ok, sbd_ok, pur_some, wpe_ok, wps_nx, wps_rt, b_add, b_sub, c_lt, c_le, c_gt, c_ge, c_eq, c_ne, c_in, c_nin, c_is, c_isnot, l_get0, l_gets, l_set0, l_sets, o_map, l_maps, l_map0, l_apps, l_app0, List.append_nil, hall _ rfl, if_pos hsz2, biD, all_true, Bool.not_true]
    refine wps_skip (wps_seq (wps_unp ?_))
    simp only [ev_var, ev_cint, ev_cstr, ev_cbl, ev_cnon, ev_g, ev_bin, ev_neg, ev_not, ev_cmp, ev_chn, ev_chn3, ev_dst, ev_revT, ev_stp, ev_lix, ev_err, ev_srt, ev_wlk, ev_lgn, lstO_ok, ev_gf, ev_isl, ev_fld, ev_mth, ev_msp, ev_prp, ev_oln, ev_con0, ev_con1, ev_cmt, ev_oeq, ev_isp, ev_ccn, okO_ok, ev_cav, ev_cpm, ev_and, ev_or, ev_ite, ev_tup, ev_lst, ev_call, ev_bi, ev_isi, ev_idx, ev_slc, ev_rev, ev_lrng, ev_lrng1, ev_dnew, ev_cpy, ev_comp, mkTup_ok, l_lens, l_len0, Nat.reduceLeDiff, Nat.reduceAdd, evs, evo, evi, bnd_ok, sbd_ok, pur_some, wpe_ok, wps_nx, wps_rt, b_add, b_sub, c_lt, c_le, c_gt, c_ge, c_eq, c_ne, c_in, c_nin, c_is, c_isnot, l_get0, l_gets, l_set0, l_sets, o_map, l_maps, l_map0, l_apps, l_app0, List.append_nil, h.states, h.last_st]
    refine ⟨_, rfl, ?_⟩
    refine wps_seq (wps_forR (fun xs ρ s9 => ∃ (rest : List Wd) (cur : Sp) (y : Option D), xs = rest.map wD ∧ ρ = [some (.loc p), some (.tup (ws.map wD)), some (.tup (ws0.map wD)), some (spD cur), y] ∧ s9 = s ∧ cur.s.natAbs * 2 ^ rest.length < 2 ^ 60 ∧ rest.foldl Sp.after cur = P') ?_ ?_ ?_)
    · refine WPE.mk (a := ws.map wD) (s := s) (by simp only [ev_var, ev_cint, ev_cstr, ev_cbl, ev_cnon, ev_g, ev_bin, ev_neg, ev_not, ev_cmp, ev_chn, ev_chn3, ev_dst, ev_revT, ev_stp, ev_lix, ev_err, ev_srt, ev_wlk, ev_lgn, lstO_ok, ev_gf, ev_isl, ev_fld, ev_mth, ev_msp, ev_prp, ev_oln, ev_con0, ev_con1, ev_cmt, ev_oeq, ev_isp, ev_ccn, okO_ok, ev_cav, ev_cpm, ev_and, ev_or, ev_ite, ev_tup, ev_lst, ev_call, ev_bi, ev_isi, ev_idx, ev_slc, ev_rev, ev_lrng, ev_lrng1, ev_dnew, ev_cpy, ev_comp, mkTup_ok, l_lens, l_len0, Nat.reduceLeDiff, Nat.reduceAdd, evs, evo, evi, bnd_ok, sbd_ok, pur_some, wpe_ok, wps_nx, wps_rt, b_add, b_sub, c_lt, c_le, c_gt, c_ge, c_eq, c_ne, c_in, c_nin, c_is, c_isnot, l_get0, l_gets, l_set0, l_sets, o_map, l_maps, l_map0, l_apps, l_app0, List.append_nil]) ⟨ws, P, none, rfl, rfl, rfl, ?_, hP'.symm⟩
      calc P.s.natAbs * 2 ^ ws.length ≤ P.s.natAbs * 2 ^ 10 := Nat.mul_le_mul_left _ h10
        _ < 2 ^ 60 := by omega
    · rintro x xs ρ s9 ⟨rest, cur, y, e, rfl, rfl, hb, ht⟩
      cases rest with
      | nil => cases e
      | cons w rest =>
        rw [List.map_cons, List.cons.injEq] at e
        obtain ⟨rfl, rfl⟩ := e
        refine ⟨_, rfl, wps_seq (wps_set ?_)⟩
        have hcs : cur.s.natAbs < 2 ^ 60 := by
          have : 0 < 2 ^ (w :: rest).length := Nat.two_pow_pos _
          exact Nat.lt_of_le_of_lt (Nat.le_mul_of_pos_right _ this) hb
        simp only [ev_var, ev_cint, ev_cstr, ev_cbl, ev_cnon, ev_g, ev_bin, ev_neg, ev_not, ev_cmp, ev_chn, ev_chn3, ev_dst, ev_revT, ev_stp, ev_lix, ev_err, ev_srt, ev_wlk, ev_lgn, lstO_ok, ev_gf, ev_isl, ev_fld, ev_mth, ev_msp, ev_prp, ev_oln, ev_con0, ev_con1, ev_cmt, ev_oeq, ev_isp, ev_ccn, okO_ok, ev_cav, ev_cpm, ev_and, ev_or, ev_ite, ev_tup, ev_lst, ev_call, ev_bi, ev_isi, ev_idx, ev_slc, ev_rev, ev_lrng, ev_lrng1, ev_dnew, ev_cpy, ev_comp, mkTup_ok, l_lens, l_len0, Nat.reduceLeDiff, Nat.reduceAdd, evs, evo, evi, bnd_ok, sbd_ok, pur_some, wpe_ok, wps_nx, wps_rt, b_add, b_sub, c_lt, c_le, c_gt, c_ge, c_eq, c_ne, c_in, c_nin, c_is, c_isnot, l_get0, l_gets, l_set0, l_sets, o_map, l_maps, l_map0, l_apps, l_app0, List.append_nil, after_word_ok hcs]
        refine wps_skip ⟨rest, cur.after w, _, rfl, rfl, rfl, ?_, ht⟩
        have := after_abs cur w
        rw [List.length_cons, Nat.pow_succ] at hb
        calc (cur.after w).s.natAbs * 2 ^ rest.length ≤ 2 * cur.s.natAbs * 2 ^ rest.length := Nat.mul_le_mul_right _ this
          _ = cur.s.natAbs * (2 ^ rest.length * 2) := by rw [Nat.mul_comm 2, Nat.mul_assoc, Nat.mul_comm 2]
          _ < 2 ^ 60 := hb
    · rintro ρ s9 ⟨rest, cur, y, e, rfl, rfl, hb, ht⟩
      have e : rest = [] := by simpa using e.symm
      subst e
      have ht : cur = P' := ht
      subst ht
      have hadd : (ws0.map wD).length + (ws.map wD).length ≤ sizeLine := by
        rw [List.length_map, List.length_map]
        omega
      have est : D.tup [.tup (ws0.map wD ++ ws.map wD), spD cur] = stD (ws0 ++ ws, cur) := by
        unfold stD
        rw [List.map_append]
      refine wps_seq (wps_app ?_)
      simp only [ev_var, ev_cint, ev_cstr, ev_cbl, ev_cnon, ev_g, ev_bin, ev_neg, ev_not, ev_cmp, ev_chn, ev_chn3, ev_dst, ev_revT, ev_stp, ev_lix, ev_err, ev_srt, ev_wlk, ev_lgn, lstO_ok, ev_gf, ev_isl, ev_fld, ev_mth, ev_msp, ev_prp, ev_oln, ev_con0, ev_con1, ev_cmt, ev_oeq, ev_isp, ev_ccn, okO_ok, ev_cav, ev_cpm, ev_and, ev_or, ev_ite, ev_tup, ev_lst, ev_call, ev_bi, ev_isi, ev_idx, ev_slc, ev_rev, ev_lrng, ev_lrng1, ev_dnew, ev_cpy, ev_comp, mkTup_ok, l_lens, l_len0, Nat.reduceLeDiff, Nat.reduceAdd, evs, evo, evi, bnd_ok, sbd_ok, pur_some, wpe_ok, wps_nx, wps_rt, b_add, b_sub, c_lt, c_le, c_gt, c_ge, c_eq, c_ne, c_in, c_nin, c_is, c_isnot, l_get0, l_gets, l_set0, l_sets, o_map, l_maps, l_map0, l_apps, l_app0, List.append_nil, h.states, is1, true_and, b_addT hadd, mkTup_ok (show [D.tup (ws0.map wD ++ ws.map wD), spD cur].length ≤ 1000 by simp), est]
      refine ⟨s1, a1 _, ?_⟩
      have esh : D.tup ((cur.row k).map .int) = shD k (ws0 ++ ws, cur) := rfl
      refine wps_seq (wps_app ?_)
      simp only [ev_var, ev_cint, ev_cstr, ev_cbl, ev_cnon, ev_g, ev_bin, ev_neg, ev_not, ev_cmp, ev_chn, ev_chn3, ev_dst, ev_revT, ev_stp, ev_lix, ev_err, ev_srt, ev_wlk, ev_lgn, lstO_ok, ev_gf, ev_isl, ev_fld, ev_mth, ev_msp, ev_prp, ev_oln, ev_con0, ev_con1, ev_cmt, ev_oeq, ev_isp, ev_ccn, okO_ok, ev_cav, ev_cpm, ev_and, ev_or, ev_ite, ev_tup, ev_lst, ev_call, ev_bi, ev_isi, ev_idx, ev_slc, ev_rev, ev_lrng, ev_lrng1, ev_dnew, ev_cpy, ev_comp, mkTup_ok, l_lens, l_len0, Nat.reduceLeDiff, Nat.reduceAdd, evs, evo, evi, bnd_ok, sbd_ok, pur_some, wpe_ok, wps_nx, wps_rt, b_add, b_sub, c_lt, c_le, c_gt, c_ge, c_eq, c_ne, c_in, c_nin, c_is, c_isnot, l_get0, l_gets, l_set0, l_sets, o_map, l_maps, l_map0, l_apps, l_app0, List.append_nil, f1, is2, true_and, f2, ix_tup, at_0, items_of_ok (k := k) (p := cur) o4 n0 (by omega), bi_tup, esh]
      refine ⟨s2, a2 _, ?_⟩
      have i3 : ∀ s, idxD s (spD cur) (.int 2) = some (.int cur.n) := fun s => by rw [spD, ix_tup, at_2]
      refine wps_seq (wps_ret ?_)
      simp only [ev_var, ev_cint, ev_cstr, ev_cbl, ev_cnon, ev_g, ev_bin, ev_neg, ev_not, ev_cmp, ev_chn, ev_chn3, ev_dst, ev_revT, ev_stp, ev_lix, ev_err, ev_srt, ev_wlk, ev_lgn, lstO_ok, ev_gf, ev_isl, ev_fld, ev_mth, ev_msp, ev_prp, ev_oln, ev_con0, ev_con1, ev_cmt, ev_oeq, ev_isp, ev_ccn, okO_ok, ev_cav, ev_cpm, ev_and, ev_or, ev_ite, ev_tup, ev_lst, ev_call, ev_bi, ev_isi, ev_idx, ev_slc, ev_rev, ev_lrng, ev_lrng1, ev_dnew, ev_cpy, ev_comp, mkTup_ok, l_lens, l_len0, Nat.reduceLeDiff, Nat.reduceAdd, evs, evo, evi, bnd_ok, sbd_ok, pur_some, wpe_ok, wps_nx, wps_rt, b_add, b_sub, c_lt, c_le, c_gt, c_ge, c_eq, c_ne, c_in, c_nin, c_is, c_isnot, l_get0, l_gets, l_set0, l_sets, o_map, l_maps, l_map0, l_apps, l_app0, List.append_nil, i3]
      exact WPE.mk (fin_keep rfl (by rw [← len2, List.take_length])) ⟨rfl, rfl⟩
  · rw [g2 p (by omega)]
    exact i1
  · rw [g2 _ (by omega), hs1, List.getElem?_set_self hl1, List.map_append (l₂ := [(ws0 ++ ws, P')])]
    rfl
  · rw [hs2, List.getElem?_set_self (by omega), List.map_append (l₂ := [(ws0 ++ ws, P')])]
    rfl
/-- a pile is made -/
theorem init2_ok {n : Nat} (hm : MOk m) (h0 : 0 ≤ k) (hk : k ≤ 300) : cal GG (n + 4) i_m_init_2 [.loc s.length, .int k, .int m] (s ++ [.ins []]) = some (.ok .non (s ++ pilC s.length k m [([], spanOf m [] k)])) := by
  rw [cal_ini Gi_m_init_2]
  refine WPE.eq (runI_wp rfl rfl ?_)
  show WPS (ex _ _ _ [some (.loc s.length), some (.int k), some (.int m)] (s ++ [.ins []])) _ _
  have hmp := hm.pos
  obtain ⟨P, hP⟩ : ∃ P, P = spanOf m [] k := ⟨_, rfl⟩
  have eP : P = ⟨1, 1, (k + m - 1) / m * m⟩ := hP
  obtain ⟨o1, o2, o3⟩ := spanOf_ok (ws := []) hmp.1 h0
  rw [← hP] at o1 o2 o3
  have n0 := o1.n0
  have o4 : P.s.natAbs < 2 ^ 60 := by
    rw [eP]
    show (1 : Int).natAbs < 2 ^ 60
    decide
  have lnL : (s ++ [Cell.ins []]).length - 1 = s.length := by simp
  rw [lnL]
  obtain ⟨b, hb⟩ : ∃ b, b = s.length := ⟨_, rfl⟩
  have g0 : ∀ (c : Cell) (t : Sto), (s ++ c :: t)[s.length]? = some c := fun c t => by
    rw [List.getElem?_append_right (by omega), Nat.sub_self]
    rfl
  have g1 : ∀ (c d : Cell) (t : Sto), (s ++ c :: d :: t)[s.length + 1]? = some d := fun c d t => by
    rw [List.getElem?_append_right (by omega), show s.length + 1 - s.length = 1 by omega]
    rfl
  have st0 : ∀ (c d : Cell) (t : Sto), (s ++ c :: t).set s.length d = s ++ d :: t := fun c d t => by
    rw [List.set_append_right _ _ (by omega), Nat.sub_self]
    rfl
  have fs : ∀ (fs : List (Str × D)) (x : Str) (d : D) (t : Sto), x ∈ pfields → fs.length < 1000 → fstD s.length (.loc s.length) x d (s ++ .ins fs :: t) = some (s ++ .ins (putD x d fs) :: t) := fun fs x d t hx hl => by
    simp only [fstD, g0]
    rw [if_pos ⟨hx, hl⟩]
    simp only [wr, Nat.le_refl, true_or, if_true, st0]
  have ap : ∀ (t : Sto) (c : Cell), (s ++ t) ++ [c] = s ++ (t ++ [c]) := fun t c => List.append_assoc _ _ _
  refine wps_seq (wps_expr ?_)
  simp only [ev_var, ev_cint, ev_cstr, ev_cbl, ev_cnon, ev_g, ev_bin, ev_neg, ev_not, ev_cmp, ev_chn, ev_chn3, ev_dst, ev_revT, ev_stp, ev_lix, ev_err, ev_srt, ev_wlk, ev_lgn, lstO_ok, ev_gf, ev_isl, ev_fld, ev_mth, ev_msp, ev_prp, ev_oln, ev_con0, ev_con1, ev_cmt, ev_oeq, ev_isp, ev_ccn, okO_ok, ev_cav, ev_cpm, ev_and, ev_or, ev_ite, ev_tup, ev_lst, ev_call, ev_bi, ev_isi, ev_idx, ev_slc, ev_rev, ev_lrng, ev_lrng1, ev_dnew, ev_cpy, ev_comp, mkTup_ok, l_lens, l_len0, Nat.reduceLeDiff, Nat.reduceAdd, evs, evo, evi, bnd_ok, sbd_ok, pur_some, wpe_ok, wps_nx, wps_rt, b_add, b_sub, c_lt, c_le, c_gt, c_ge, c_eq, c_ne, c_in, c_nin, c_is, c_isnot, l_get0, l_gets, l_set0, l_sets, o_map, l_maps, l_map0, l_apps, l_app0, List.append_nil, cal_con Gi_SHORT, need_pages_ok h0 hk]
  refine wps_seq (wps_if (b := false) (WPE.of_eq ?_) (fun z => absurd z (by decide)) fun _ => ?_)
  · simp only [ev_var, ev_cint, ev_cstr, ev_cbl, ev_cnon, ev_g, ev_bin, ev_neg, ev_not, ev_cmp, ev_chn, ev_chn3, ev_dst, ev_revT, ev_stp, ev_lix, ev_err, ev_srt, ev_wlk, ev_lgn, lstO_ok, ev_gf, ev_isl, ev_fld, ev_mth, ev_msp, ev_prp, ev_oln, ev_con0, ev_con1, ev_cmt, ev_oeq, ev_isp, ev_ccn, okO_ok, ev_cav, ev_cpm, ev_and, ev_or, ev_ite, ev_tup, ev_lst, ev_call, ev_bi, ev_isi, ev_idx, ev_slc, ev_rev, ev_lrng, ev_lrng1, ev_dnew, ev_cpy, ev_comp, mkTup_ok, l_lens, l_len0, Nat.reduceLeDiff, Nat.reduceAdd, evs, evo, evi, bnd_ok, sbd_ok, pur_some, wpe_ok, wps_nx, wps_rt, b_add, b_sub, c_lt, c_le, c_gt, c_ge, c_eq, c_ne, c_in, c_nin, c_is, c_isnot, l_get0, l_gets, l_set0, l_sets, o_map, l_maps, l_map0, l_apps, l_app0, List.append_nil, is_multiple_ok hm, Bool.not_true]
  refine wps_skip (wps_seq (wps_fst ?_))
  simp only [ev_var, ev_cint, ev_cstr, ev_cbl, ev_cnon, ev_g, ev_bin, ev_neg, ev_not, ev_cmp, ev_chn, ev_chn3, ev_dst, ev_revT, ev_stp, ev_lix, ev_err, ev_srt, ev_wlk, ev_lgn, lstO_ok, ev_gf, ev_isl, ev_fld, ev_mth, ev_msp, ev_prp, ev_oln, ev_con0, ev_con1, ev_cmt, ev_oeq, ev_isp, ev_ccn, okO_ok, ev_cav, ev_cpm, ev_and, ev_or, ev_ite, ev_tup, ev_lst, ev_call, ev_bi, ev_isi, ev_idx, ev_slc, ev_rev, ev_lrng, ev_lrng1, ev_dnew, ev_cpy, ev_comp, mkTup_ok, l_lens, l_len0, Nat.reduceLeDiff, Nat.reduceAdd, evs, evo, evi, bnd_ok, sbd_ok, pur_some, wpe_ok, wps_nx, wps_rt, b_add, b_sub, c_lt, c_le, c_gt, c_ge, c_eq, c_ne, c_in, c_nin, c_is, c_isnot, l_get0, l_gets, l_set0, l_sets, o_map, l_maps, l_map0, l_apps, l_app0, List.append_nil, mkTup_ok (show [D.int k, D.int m].length ≤ 1000 by simp)]
  refine ⟨_, fs [] "start" _ [] (by decide) (by decide), ?_⟩
  have p1 : putD "start" (D.tup [.int k, .int m]) [] = [(("start" : Str), D.tup [.int k, .int m])] := rfl
  rw [p1]
  refine wps_seq (wps_fst ?_)
  simp only [ev_var, ev_cint, ev_cstr, ev_cbl, ev_cnon, ev_g, ev_bin, ev_neg, ev_not, ev_cmp, ev_chn, ev_chn3, ev_dst, ev_revT, ev_stp, ev_lix, ev_err, ev_srt, ev_wlk, ev_lgn, lstO_ok, ev_gf, ev_isl, ev_fld, ev_mth, ev_msp, ev_prp, ev_oln, ev_con0, ev_con1, ev_cmt, ev_oeq, ev_isp, ev_ccn, okO_ok, ev_cav, ev_cpm, ev_and, ev_or, ev_ite, ev_tup, ev_lst, ev_call, ev_bi, ev_isi, ev_idx, ev_slc, ev_rev, ev_lrng, ev_lrng1, ev_dnew, ev_cpy, ev_comp, mkTup_ok, l_lens, l_len0, Nat.reduceLeDiff, Nat.reduceAdd, evs, evo, evi, bnd_ok, sbd_ok, pur_some, wpe_ok, wps_nx, wps_rt, b_add, b_sub, c_lt, c_le, c_gt, c_ge, c_eq, c_ne, c_in, c_nin, c_is, c_isnot, l_get0, l_gets, l_set0, l_sets, o_map, l_maps, l_map0, l_apps, l_app0, List.append_nil, if_true, le_size, fresh_f', rounded_ok (p := k) hmp.1 (by omega : m < 1000), fresh_t' (show ([D.tup [.tup [], .tup [.int 1, .int 1, .int ((k + m - 1) / m * m)]]] : List D).length ≤ 1000 by simp)]
  have e1 : D.tup [.tup [], .tup [.int 1, .int 1, .int ((k + m - 1) / m * m)]] = stD ([], P) := by
    rw [eP]
    rfl
  have ln1 : ∀ c : Cell, (s ++ [c]).length = s.length + 1 := fun c => by simp
  rw [e1, ln1, ap]
  refine ⟨_, fs _ "states" _ _ (by decide) (by simp), ?_⟩
  have p2 : ∀ (x : D) (d : D), putD "states" d [(("start" : Str), x)] = [(("start" : Str), x), (("states" : Str), d)] := fun _ _ => rfl
  rw [p2]
  have f2 : fldD (s ++ [.ins [("start", .tup [.int k, .int m]), ("states", .loc (s.length + 1))], .lst [stD ([], P)]]) (.loc s.length) "states" = some (.loc (s.length + 1)) := by
    simp only [fldD, g0]
    rfl
  have i2 : idxD (s ++ [.ins [("start", .tup [.int k, .int m]), ("states", .loc (s.length + 1))], .lst [stD ([], P)]]) (.loc (s.length + 1)) (.int 0) = some (stD ([], P)) := by
    rw [ix_lo (g1 _ _ _), at_0]
  refine wps_seq (wps_fst ?_)
  have ln2 : ∀ c d : Cell, (s ++ [c, d]).length = s.length + 2 := fun c d => by simp
  show WPE (ev _ _ _ (s ++ [.ins [("start", .tup [.int k, .int m]), ("states", .loc (s.length + 1))], .lst [stD ([], P)]])) _
  have i1 : ∀ s, idxD s (stD ([], P)) (.int 1) = some (spD P) := fun s => by rw [stD, ix_tup, at_1]
  simp only [ev_var, ev_cint, ev_cstr, ev_cbl, ev_cnon, ev_g, ev_bin, ev_neg, ev_not, ev_cmp, ev_chn, ev_chn3, ev_dst, ev_revT, ev_stp, ev_lix, ev_err, ev_srt, ev_wlk, ev_lgn, lstO_ok, ev_gf, ev_isl, ev_fld, ev_mth, ev_msp, ev_prp, ev_oln, ev_con0, ev_con1, ev_cmt, ev_oeq, ev_isp, ev_ccn, okO_ok, ev_cav, ev_cpm, ev_and, ev_or, ev_ite, ev_tup, ev_lst, ev_call, ev_bi, ev_isi, ev_idx, ev_slc, ev_rev, ev_lrng, ev_lrng1, ev_dnew, ev_cpy, ev_comp, mkTup_ok, l_lens, l_len0, Nat.reduceLeDiff, Nat.reduceAdd, evs, evo, evi, bnd_ok, sbd_ok, pur_some, wpe_ok, wps_nx, wps_rt, b_add, b_sub, c_lt, c_le, c_gt, c_ge, c_eq, c_ne, c_in, c_nin, c_is, c_isnot, l_get0, l_gets, l_set0, l_sets, o_map, l_maps, l_map0, l_apps, l_app0, List.append_nil, f2, i2, i1, items_of_ok (k := k) (p := P) o4 n0 (by omega), bi_tup]
  rw [fresh_t' (by simp)]
  simp only [ev_var, ev_cint, ev_cstr, ev_cbl, ev_cnon, ev_g, ev_bin, ev_neg, ev_not, ev_cmp, ev_chn, ev_chn3, ev_dst, ev_revT, ev_stp, ev_lix, ev_err, ev_srt, ev_wlk, ev_lgn, lstO_ok, ev_gf, ev_isl, ev_fld, ev_mth, ev_msp, ev_prp, ev_oln, ev_con0, ev_con1, ev_cmt, ev_oeq, ev_isp, ev_ccn, okO_ok, ev_cav, ev_cpm, ev_and, ev_or, ev_ite, ev_tup, ev_lst, ev_call, ev_bi, ev_isi, ev_idx, ev_slc, ev_rev, ev_lrng, ev_lrng1, ev_dnew, ev_cpy, ev_comp, mkTup_ok, l_lens, l_len0, Nat.reduceLeDiff, Nat.reduceAdd, evs, evo, evi, bnd_ok, sbd_ok, pur_some, wpe_ok, wps_nx, wps_rt, b_add, b_sub, c_lt, c_le, c_gt, c_ge, c_eq, c_ne, c_in, c_nin, c_is, c_isnot, l_get0, l_gets, l_set0, l_sets, o_map, l_maps, l_map0, l_apps, l_app0, List.append_nil]
  rw [ln2, ap]
  refine ⟨_, fs _ "shown" _ _ (by decide) (by simp), ?_⟩
  refine wps_skip ⟨trivial, ?_⟩
  rw [← hP]
  rfl
theorem after_pile_ok {n : Nat} {ws : List Wd} (h : JOk m ws) (h0 : 0 ≤ k) (hk : k ≤ 300) : ∃ s', cal GG (n + 6) i_m_after [.gf 0 "Pile", jD m ws, .int k] s = some (.ok (.loc s.length) s') ∧ IsPile s' s.length k m ([([], spanOf m [] k)] ++ [(ws, spanOf m ws k)]) ∧ s'.length = s.length + 3 ∧ ∀ q, q < s.length → s'[q]? = s[q]? := by
  have hmp := h.1.pos
  obtain ⟨P, hP⟩ : ∃ P, P = spanOf m [] k := ⟨_, rfl⟩
  obtain ⟨o1, o2, o3⟩ := spanOf_ok (ws := []) hmp.1 h0
  have h1 : IsPile (s ++ pilC s.length k m [([], P)]) s.length k m ([] ++ [([], P)]) := pilC_at
  rw [← hP] at o1 o2 o3
  obtain ⟨s', e', p', l', k'⟩ := apply_ok (n := n) (ws := ws) h1 o1 (by
    rw [hP]
    show (1 : Int).natAbs < 2 ^ 40
    decide) (by omega) h.2 (by simp) (by simp)
  have p' : IsPile s' s.length k m ([([], P)] ++ [(ws, spanOf m ws k)]) := by
    rw [hP] at p' ⊢
    exact p'
  have hl : (s ++ pilC s.length k m [([], P)]).length = s.length + 3 := by simp [pilC]
  rw [← hP]
  refine ⟨s', ?_, p', by rw [l', hl], fun q hq => by
    rw [k' q (by omega) (by omega), List.getElem?_append_left hq]⟩
  rw [cal_mth Gi_m_after]
  refine WPE.eq (run_wp rfl ?_)
  show WPS (ex _ _ _ [some (.gf 0 "Pile"), some (jD m ws), some (.int k), none, none] s) _ _
  have hc : ∀ ρ : Env, ρ = [some (.gf 0 "Pile"), some (jD m ws), some (.int k), none, none] → clsIs ρ (.var 0) = true := fun ρ hρ => by
    subst hρ
    rfl
  have hi : cal GG (n + 4) i_m_init_2 [.loc s.length, .int k, .int m] (s ++ [.ins []]) = some (.ok .non (s ++ pilC s.length k m [([], P)])) := by
    rw [hP]
    exact init2_ok h.1 h0 hk
  have hk2 : conK (cal GG (n + 4)) i_m_init_2 [.int k, .int m] s = some (.ok (.loc s.length) (s ++ pilC s.length k m [([], P)])) := conK_ok hi
  refine wps_seq (wps_expr ?_)
  simp only [ev_var, ev_cint, ev_cstr, ev_cbl, ev_cnon, ev_g, ev_bin, ev_neg, ev_not, ev_cmp, ev_chn, ev_chn3, ev_dst, ev_revT, ev_stp, ev_lix, ev_err, ev_srt, ev_wlk, ev_lgn, lstO_ok, ev_gf, ev_isl, ev_fld, ev_mth, ev_msp, ev_prp, ev_oln, ev_con0, ev_con1, ev_cmt, ev_oeq, ev_isp, ev_ccn, okO_ok, ev_cav, ev_cpm, ev_and, ev_or, ev_ite, ev_tup, ev_lst, ev_call, ev_bi, ev_isi, ev_idx, ev_slc, ev_rev, ev_lrng, ev_lrng1, ev_dnew, ev_cpy, ev_comp, mkTup_ok, l_lens, l_len0, Nat.reduceLeDiff, Nat.reduceAdd, evs, evo, evi, bnd_ok, sbd_ok, pur_some, wpe_ok, wps_nx, wps_rt, b_add, b_sub, c_lt, c_le, c_gt, c_ge, c_eq, c_ne, c_in, c_nin, c_is, c_isnot, l_get0, l_gets, l_set0, l_sets, o_map, l_maps, l_map0, l_apps, l_app0, List.append_nil, need_job_ok h]
  refine wps_seq (wps_expr ?_)
  simp only [ev_var, ev_cint, ev_cstr, ev_cbl, ev_cnon, ev_g, ev_bin, ev_neg, ev_not, ev_cmp, ev_chn, ev_chn3, ev_dst, ev_revT, ev_stp, ev_lix, ev_err, ev_srt, ev_wlk, ev_lgn, lstO_ok, ev_gf, ev_isl, ev_fld, ev_mth, ev_msp, ev_prp, ev_oln, ev_con0, ev_con1, ev_cmt, ev_oeq, ev_isp, ev_ccn, okO_ok, ev_cav, ev_cpm, ev_and, ev_or, ev_ite, ev_tup, ev_lst, ev_call, ev_bi, ev_isi, ev_idx, ev_slc, ev_rev, ev_lrng, ev_lrng1, ev_dnew, ev_cpy, ev_comp, mkTup_ok, l_lens, l_len0, Nat.reduceLeDiff, Nat.reduceAdd, evs, evo, evi, bnd_ok, sbd_ok, pur_some, wpe_ok, wps_nx, wps_rt, b_add, b_sub, c_lt, c_le, c_gt, c_ge, c_eq, c_ne, c_in, c_nin, c_is, c_isnot, l_get0, l_gets, l_set0, l_sets, o_map, l_maps, l_map0, l_apps, l_app0, List.append_nil, cal_con Gi_SHORT, need_pages_ok h0 hk]
  refine wps_seq (wps_set ?_)
  simp only [ev_var, ev_cint, ev_cstr, ev_cbl, ev_cnon, ev_g, ev_bin, ev_neg, ev_not, ev_cmp, ev_chn, ev_chn3, ev_dst, ev_revT, ev_stp, ev_lix, ev_err, ev_srt, ev_wlk, ev_lgn, lstO_ok, ev_gf, ev_isl, ev_fld, ev_mth, ev_msp, ev_prp, ev_oln, ev_con0, ev_con1, ev_cmt, ev_oeq, ev_isp, ev_ccn, okO_ok, ev_cav, ev_cpm, ev_and, ev_or, ev_ite, ev_tup, ev_lst, ev_call, ev_bi, ev_isi, ev_idx, ev_slc, ev_rev, ev_lrng, ev_lrng1, ev_dnew, ev_cpy, ev_comp, mkTup_ok, l_lens, l_len0, Nat.reduceLeDiff, Nat.reduceAdd, evs, evo, evi, bnd_ok, sbd_ok, pur_some, wpe_ok, wps_nx, wps_rt, b_add, b_sub, c_lt, c_le, c_gt, c_ge, c_eq, c_ne, c_in, c_nin, c_is, c_isnot, l_get0, l_gets, l_set0, l_sets, o_map, l_maps, l_map0, l_apps, l_app0, List.append_nil, hc _ rfl, if_true, jD_0, hk2]
  refine wps_seq (wps_set ?_)
  simp only [ev_var, ev_cint, ev_cstr, ev_cbl, ev_cnon, ev_g, ev_bin, ev_neg, ev_not, ev_cmp, ev_chn, ev_chn3, ev_dst, ev_revT, ev_stp, ev_lix, ev_err, ev_srt, ev_wlk, ev_lgn, lstO_ok, ev_gf, ev_isl, ev_fld, ev_mth, ev_msp, ev_prp, ev_oln, ev_con0, ev_con1, ev_cmt, ev_oeq, ev_isp, ev_ccn, okO_ok, ev_cav, ev_cpm, ev_and, ev_or, ev_ite, ev_tup, ev_lst, ev_call, ev_bi, ev_isi, ev_idx, ev_slc, ev_rev, ev_lrng, ev_lrng1, ev_dnew, ev_cpy, ev_comp, mkTup_ok, l_lens, l_len0, Nat.reduceLeDiff, Nat.reduceAdd, evs, evo, evi, bnd_ok, sbd_ok, pur_some, wpe_ok, wps_nx, wps_rt, b_add, b_sub, c_lt, c_le, c_gt, c_ge, c_eq, c_ne, c_in, c_nin, c_is, c_isnot, l_get0, l_gets, l_set0, l_sets, o_map, l_maps, l_map0, l_apps, l_app0, List.append_nil, jD_1]
  refine wps_seq (wps_expr ?_)
  simp only [ev_var, ev_cint, ev_cstr, ev_cbl, ev_cnon, ev_g, ev_bin, ev_neg, ev_not, ev_cmp, ev_chn, ev_chn3, ev_dst, ev_revT, ev_stp, ev_lix, ev_err, ev_srt, ev_wlk, ev_lgn, lstO_ok, ev_gf, ev_isl, ev_fld, ev_mth, ev_msp, ev_prp, ev_oln, ev_con0, ev_con1, ev_cmt, ev_oeq, ev_isp, ev_ccn, okO_ok, ev_cav, ev_cpm, ev_and, ev_or, ev_ite, ev_tup, ev_lst, ev_call, ev_bi, ev_isi, ev_idx, ev_slc, ev_rev, ev_lrng, ev_lrng1, ev_dnew, ev_cpy, ev_comp, mkTup_ok, l_lens, l_len0, Nat.reduceLeDiff, Nat.reduceAdd, evs, evo, evi, bnd_ok, sbd_ok, pur_some, wpe_ok, wps_nx, wps_rt, b_add, b_sub, c_lt, c_le, c_gt, c_ge, c_eq, c_ne, c_in, c_nin, c_is, c_isnot, l_get0, l_gets, l_set0, l_sets, o_map, l_maps, l_map0, l_apps, l_app0, List.append_nil, h1.isp, if_true, e']
  refine wps_seq (wps_ret ?_)
  simp only [ev_var, ev_cint, ev_cstr, ev_cbl, ev_cnon, ev_g, ev_bin, ev_neg, ev_not, ev_cmp, ev_chn, ev_chn3, ev_dst, ev_revT, ev_stp, ev_lix, ev_err, ev_srt, ev_wlk, ev_lgn, lstO_ok, ev_gf, ev_isl, ev_fld, ev_mth, ev_msp, ev_prp, ev_oln, ev_con0, ev_con1, ev_cmt, ev_oeq, ev_isp, ev_ccn, okO_ok, ev_cav, ev_cpm, ev_and, ev_or, ev_ite, ev_tup, ev_lst, ev_call, ev_bi, ev_isi, ev_idx, ev_slc, ev_rev, ev_lrng, ev_lrng1, ev_dnew, ev_cpy, ev_comp, mkTup_ok, l_lens, l_len0, Nat.reduceLeDiff, Nat.reduceAdd, evs, evo, evi, bnd_ok, sbd_ok, pur_some, wpe_ok, wps_nx, wps_rt, b_add, b_sub, c_lt, c_le, c_gt, c_ge, c_eq, c_ne, c_in, c_nin, c_is, c_isnot, l_get0, l_gets, l_set0, l_sets, o_map, l_maps, l_map0, l_apps, l_app0, List.append_nil]
  exact WPE.mk (by unfold fin; exact if_neg (by decide)) ⟨rfl, rfl⟩
end
end EV

set_option maxHeartbeats 4000000
set_option pp.maxSteps 300
/-! plans -/
namespace EV
open PySem PySem.Spec PyProof.Rows L2
theorem okD_nice {k : Nat} {a : D} (ha : nice k a = true) (hk : k ≤ 60 := by decide) : okD a = true := by
  obtain ⟨a1, a2, a3⟩ := nice_ok k a ha
  unfold okD SeqAt.shaped
  rw [a1, a2, decide_eq_true (by omega)]
  rfl
theorem any_ints (x : Int) : ∀ xs : List Int, ((xs.map D.int).any fun y => PyData.eqv (toPy y) (toPy (.int x))) = decide (x ∈ xs)
  | [] => by simp
  | y :: r => by
    have e : PyData.eqv (toPy (.int y)) (toPy (.int x)) = decide (x = y) := by
      have := nice_eqv 0 0 (.int y) (.int x) rfl rfl
      by_cases h : x = y
      · rw [decide_eq_true h, this.mpr (by rw [h])]
      · rw [decide_eq_false h]
        cases q : PyData.eqv (toPy (.int y)) (toPy (.int x)) with
        | false => rfl
        | true => exact absurd (D.int.inj (this.mp q)).symm h
    rw [List.map_cons, List.any_cons, any_ints x r, e]
    simp
theorem in_ints {s : Sto} (x : Int) (xs : List Int) : inD s (.int x) (.lst (xs.map .int)) = some (decide (x ∈ xs)) := by
  have h1 : okD (.int x) = true := okD_nice (k := 0) rfl
  have h2 : okD (.lst (xs.map .int)) = true := okD_nice (k := 1) (nice_ints xs)
  simp only [inD, deref, h1, h2, Bool.and_self, if_true, any_ints]
/-! ### keys of a dict -/
def hasK (kvs : List (Key × D)) (j : Key) : Bool := kvs.any fun kv => decide (kv.1 = j)
theorem getK_has (kvs : List (Key × D)) (j : Key) : (getK kvs j).isSome = hasK kvs j := by
  unfold getK hasK
  rw [Option.isSome_map, Bool.eq_iff_iff, List.find?_isSome, List.any_eq_true]
theorem hasK_set (kvs : List (Key × D)) (k j : Key) (v : D) : hasK (setK kvs k v) j = (decide (k = j) || hasK kvs j) := by
  unfold setK
  split
  · rename_i h
    have e : hasK (kvs.map fun kv => if kv.1 = k then (kv.1, v) else kv) j = hasK kvs j := by
      unfold hasK
      rw [List.any_map]
      congr 1
      funext kv
      show decide ((if kv.1 = k then (kv.1, v) else kv).1 = j) = _
      split <;> rfl
    rw [e]
    by_cases q : k = j
    · subst q
      rw [show hasK kvs k = true from h, Bool.or_true]
    · rw [decide_eq_false q, Bool.false_or]
  · unfold hasK
    rw [List.any_append, Bool.or_comm]
    simp
theorem setK_len (kvs : List (Key × D)) (k : Key) (v : D) : (setK kvs k v).length ≤ kvs.length + 1 := by
  unfold setK
  split
  · rw [List.length_map]
    omega
  · rw [List.length_append]
    exact Nat.le_refl _
theorem in_dct {s : Sto} {n : Nat} {kvs : List (Key × D)} {x : Int} (h : s[n]? = some (.dct kvs)) : inD s (.int x) (.loc n) = some (hasK kvs (.inl x)) := by
  rw [← getK_has]
  simp only [inD, deref, h, keyD]
/-! ### comprehensions that leave out -/
theorem compL_fm {f : D → Sto → Option (Out (Option D))} {g : D → Option D} {s : Sto} : ∀ {xs : List D}, (∀ x ∈ xs, f x s = some (.ok (g x) s)) → compL f xs s = some (.ok (xs.filterMap g) s)
  | [], _ => rfl
  | x :: xs, h => by
    unfold compL
    rw [h x (List.mem_cons_self ..)]
    dsimp only
    rw [compL_fm fun y hy => h y (List.mem_cons_of_mem _ hy), List.filterMap_cons]
    cases g x <;> rfl
def onI (p : Int → Bool) : D → Option D
  | .int x => if p x then some (.int x) else none
  | _ => none
theorem fm_ints (p : Int → Bool) : ∀ xs : List Int, (xs.map D.int).filterMap (onI p) = (xs.filter p).map .int
  | [] => rfl
  | x :: r => by
    rw [List.map_cons, List.filterMap_cons, fm_ints p r, List.filter_cons]
    cases h : p x <;> simp [onI, h]
theorem compL_ints {f : D → Sto → Option (Out (Option D))} {p : Int → Bool} {s : Sto} {xs : List Int} (h : ∀ x ∈ xs, f (.int x) s = some (.ok (if p x then some (.int x) else none) s)) : compL f (xs.map .int) s = some (.ok ((xs.filter p).map .int) s) := by
  rw [← fm_ints]
  refine compL_fm fun x hx => ?_
  obtain ⟨y, hy, rfl⟩ := List.mem_map.mp hx
  exact h y hy
theorem ints_len {xs : List Int} (h : xs.length ≤ 10000) : (xs.map D.int).length ≤ sizeLine := by
  rw [List.length_map]
  have : sizeLine = 16777216 := rfl
  omega
/-- 1 .. k -/
def pgs (k : Int) : List Int := (List.range k.toNat).map fun i : Nat => 1 + (i : Int)
theorem pgs_rng (k : Int) : rngL 1 (k + 1) = (pgs k).map .int := by
  rw [rngL_map, pgs, List.map_map]
  rw [show k + 1 - 1 = k by omega]
  rfl
theorem pgs_mem {k x : Int} : x ∈ pgs k ↔ 1 ≤ x ∧ x ≤ k := by
  unfold pgs
  rw [List.mem_map]
  constructor
  · rintro ⟨i, hi, rfl⟩
    rw [List.mem_range] at hi
    omega
  · rintro ⟨h1, h2⟩
    exact ⟨(x - 1).toNat, List.mem_range.mpr (by omega), by omega⟩
theorem pgs_len (k : Int) : (pgs k).length = k.toNat := by rw [pgs, List.length_map, List.length_range]
/-! ### plans -/
abbrev Jb := Int × List Wd
def jb (j : Jb) : D := jD j.1 j.2
abbrev planD (js : List Jb) : D := .tup (js.map jb)
def POk (js : List Jb) : Prop := 1 ≤ js.length ∧ js.length ≤ 4 ∧ ∀ j ∈ js, JOk j.1 j.2
def spans (js : List Jb) (k : Int) : List Sp := js.map fun j => spanOf j.1 j.2 k
theorem sps_noloc (ps : List Sp) : nolocs (ps.map spD) = true := by
  induction ps with
  | nil => rfl
  | cons p r ih => simp [nolocs, ih, spD_noloc]
theorem row_mem {p : Sp} {k x : Int} : x ∈ p.row k ↔ ∃ i : Nat, (i : Int) < p.n ∧ p.item k (i : Nat) = x := by
  unfold Sp.row
  rw [List.mem_map]
  constructor
  · rintro ⟨i, hi, e⟩
    rw [List.mem_range] at hi
    exact ⟨i, by omega, e⟩
  · rintro ⟨i, hi, e⟩
    exact ⟨i, List.mem_range.mpr (by omega), e⟩
end EV

set_option maxHeartbeats 4000000
/-! errors that are told; sizes, items and rows by the words -/
namespace EV
open PySem PySem.Spec PyProof.Rows L2
def XPS (o : Option SO) (k : Nat) (s' : Sto) : Prop := ∃ ρ, o = some (.exc k ρ s')
section
variable {s s' : Sto} {ρ : Env} {CT : CTb} {L k : Nat}
theorem xps_seq {a b : S} (h : WPS (ex CT L a ρ s) (fun ρ1 s1 => XPS (ex CT L b ρ1 s1) k s') (fun _ _ => False)) : XPS (ex CT L (.seq a b) ρ s) k s' := by
  rw [ex]
  match e : ex CT L a ρ s with
  | some (.nx ρ1 s1) =>
    rw [e] at h
    exact h
  | some (.ret d s1) =>
    rw [e] at h
    exact h.elim
  | some (.exc k ρ s1) =>
    rw [e] at h
    exact h.elim
  | none =>
    rw [e] at h
    exact h.elim
theorem xps_now {a b : S} (h : XPS (ex CT L a ρ s) k s') : XPS (ex CT L (.seq a b) ρ s) k s' := by
  obtain ⟨ρ1, e⟩ := h
  rw [ex, e]
  exact ⟨ρ1, rfl⟩
theorem xps_if {c : E} {t f : S} (h : ev CT c ρ s = some (.ok (.bl true) s)) (ht : XPS (ex CT L t ρ s) k s') : XPS (ex CT L (.ifs c t f) ρ s) k s' := by
  rw [ex, h]
  exact ht
theorem xps_rse : XPS (ex CT L (.rse k) ρ s) k s := by
  rw [ex]
  exact ⟨ρ, rfl⟩
theorem xps_expr {e : E} (h : ev CT e ρ s = some (.exc k s')) : XPS (ex CT L (.expr e) ρ s) k s' := by
  rw [ex, h]
  exact ⟨ρ, rfl⟩
theorem cal_exc {G : Nat → Option Ent} {n i : Nat} {F : Fn} {ds dds : List D} (h : G i = some (.fn F dds)) (hl : (ds ++ dds).length = F.np) (hz : F.fz = true)
    (hw : XPS (ex (cal G n) s.length F.body ((ds ++ dds).map some ++ List.replicate (F.ns - F.np) none) s) k s) : cal G (n + 1) i ds s = some (.exc k s) := by
  obtain ⟨ρ1, e⟩ := hw
  simp only [cal, h, run, hl, if_true, e, hz, List.take_length]
theorem err_cal {G : Nat → Option Ent} {n i f : Nat} {ds xs : List D} {ks : List (List D)} (h : G i = some (.err f ks)) (hl : ds.length = 3) (he : ks[k]? = some xs) (hx : cal G n f ds s = some (.exc k s')) : cal G (n + 1) i ds s = some (.ok (.lst xs) s') := by
  rw [cal_err h, if_pos hl, hx]
  show (match ks[k]? with
    | some ys => some (Out.ok (D.lst ys) s')
    | none => none) = _
  rw [he]
end
/-! ### a number that is refused -/
theorem page_at_bad {n : Nat} {m k : Int} {d : D} {ws : List Wd} {s : Sto} (h : JOk m ws) (h0 : 0 ≤ k) (hk : k ≤ longI) (hd : noloc d = true) (hs : ∀ ns, d ≠ .scr ns) (ha : ∀ a, d ≠ .adr a) (hi : intIn 0 ((spanOf m ws k).n - 1) d = false) :
    cal GG (n + 5) i_page_at [jD m ws, .int k, d] s = some (.exc x_InvalidNumber s) := by
  refine cal_exc Gi_page_at rfl rfl ?_
  show XPS (ex _ _ _ [some (jD m ws), some (.int k), some d, none] s) _ _
  have hm := h.1.pos
  have hl := h.2
  refine xps_seq (wps_expr ?_)
  simp only [ev_var, ev_cint, ev_cstr, ev_cbl, ev_cnon, ev_g, ev_bin, ev_neg, ev_not, ev_cmp, ev_chn, ev_chn3, ev_dst, ev_revT, ev_stp, ev_lix, ev_err, ev_srt, ev_wlk, ev_lgn, lstO_ok, ev_gf, ev_isl, ev_fld, ev_mth, ev_msp, ev_prp, ev_oln, ev_con0, ev_con1, ev_cmt, ev_oeq, ev_isp, ev_ccn, okO_ok, ev_cav, ev_cpm, ev_and, ev_or, ev_ite, ev_tup, ev_lst, ev_call, ev_bi, ev_isi, ev_idx, ev_slc, ev_rev, ev_lrng, ev_lrng1, ev_dnew, ev_cpy, ev_comp, mkTup_ok, l_lens, l_len0, Nat.reduceLeDiff, Nat.reduceAdd, evs, evo, evi, bnd_ok, sbd_ok, pur_some, wpe_ok, wps_nx, wps_rt, b_add, b_sub, c_lt, c_le, c_gt, c_ge, c_eq, c_ne, c_in, c_nin, c_is, c_isnot, l_get0, l_gets, l_set0, l_sets, o_map, l_maps, l_map0, l_apps, l_app0, List.append_nil, need_job_ok h]
  refine xps_seq (wps_expr ?_)
  simp only [ev_var, ev_cint, ev_cstr, ev_cbl, ev_cnon, ev_g, ev_bin, ev_neg, ev_not, ev_cmp, ev_chn, ev_chn3, ev_dst, ev_revT, ev_stp, ev_lix, ev_err, ev_srt, ev_wlk, ev_lgn, lstO_ok, ev_gf, ev_isl, ev_fld, ev_mth, ev_msp, ev_prp, ev_oln, ev_con0, ev_con1, ev_cmt, ev_oeq, ev_isp, ev_ccn, okO_ok, ev_cav, ev_cpm, ev_and, ev_or, ev_ite, ev_tup, ev_lst, ev_call, ev_bi, ev_isi, ev_idx, ev_slc, ev_rev, ev_lrng, ev_lrng1, ev_dnew, ev_cpy, ev_comp, mkTup_ok, l_lens, l_len0, Nat.reduceLeDiff, Nat.reduceAdd, evs, evo, evi, bnd_ok, sbd_ok, pur_some, wpe_ok, wps_nx, wps_rt, b_add, b_sub, c_lt, c_le, c_gt, c_ge, c_eq, c_ne, c_in, c_nin, c_is, c_isnot, l_get0, l_gets, l_set0, l_sets, o_map, l_maps, l_map0, l_apps, l_app0, List.append_nil, need_pages1_ok h0 hk]
  refine xps_seq (wps_set ?_)
  simp only [ev_var, ev_cint, ev_cstr, ev_cbl, ev_cnon, ev_g, ev_bin, ev_neg, ev_not, ev_cmp, ev_chn, ev_chn3, ev_dst, ev_revT, ev_stp, ev_lix, ev_err, ev_srt, ev_wlk, ev_lgn, lstO_ok, ev_gf, ev_isl, ev_fld, ev_mth, ev_msp, ev_prp, ev_oln, ev_con0, ev_con1, ev_cmt, ev_oeq, ev_isp, ev_ccn, okO_ok, ev_cav, ev_cpm, ev_and, ev_or, ev_ite, ev_tup, ev_lst, ev_call, ev_bi, ev_isi, ev_idx, ev_slc, ev_rev, ev_lrng, ev_lrng1, ev_dnew, ev_cpy, ev_comp, mkTup_ok, l_lens, l_len0, Nat.reduceLeDiff, Nat.reduceAdd, evs, evo, evi, bnd_ok, sbd_ok, pur_some, wpe_ok, wps_nx, wps_rt, b_add, b_sub, c_lt, c_le, c_gt, c_ge, c_eq, c_ne, c_in, c_nin, c_is, c_isnot, l_get0, l_gets, l_set0, l_sets, o_map, l_maps, l_map0, l_apps, l_app0, List.append_nil, span_of_ok (p := k) hm.1 (by omega) (by omega : ws.length ≤ 50)]
  have e : ∀ s, idxD s (spD (spanOf m ws k)) (.int 2) = some (.int (spanOf m ws k).n) := fun s => by rw [spD, ix_tup, at_2]
  refine xps_now (xps_if ?_ (xps_now xps_rse))
  simp only [ev_var, ev_cint, ev_cstr, ev_cbl, ev_cnon, ev_g, ev_bin, ev_neg, ev_not, ev_cmp, ev_chn, ev_chn3, ev_dst, ev_revT, ev_stp, ev_lix, ev_err, ev_srt, ev_wlk, ev_lgn, lstO_ok, ev_gf, ev_isl, ev_fld, ev_mth, ev_msp, ev_prp, ev_oln, ev_con0, ev_con1, ev_cmt, ev_oeq, ev_isp, ev_ccn, okO_ok, ev_cav, ev_cpm, ev_and, ev_or, ev_ite, ev_tup, ev_lst, ev_call, ev_bi, ev_isi, ev_idx, ev_slc, ev_rev, ev_lrng, ev_lrng1, ev_dnew, ev_cpy, ev_comp, mkTup_ok, l_lens, l_len0, Nat.reduceLeDiff, Nat.reduceAdd, evs, evo, evi, bnd_ok, sbd_ok, pur_some, wpe_ok, wps_nx, wps_rt, b_add, b_sub, c_lt, c_le, c_gt, c_ge, c_eq, c_ne, c_in, c_nin, c_is, c_isnot, l_get0, l_gets, l_set0, l_sets, o_map, l_maps, l_map0, l_apps, l_app0, List.append_nil, e, is_integer_ok hd hs ha, hi, Bool.not_false]
theorem place_of_bad {n : Nat} {m k : Int} {d : D} {ws : List Wd} {s : Sto} (h : JOk m ws) (h0 : 0 ≤ k) (hk : k ≤ longI) (hd : noloc d = true) (hs : ∀ ns, d ≠ .scr ns) (ha : ∀ a, d ≠ .adr a) (hi : intIn 1 k d = false) :
    cal GG (n + 5) i_place_of [jD m ws, .int k, d] s = some (.exc x_InvalidNumber s) := by
  refine cal_exc Gi_place_of rfl rfl ?_
  show XPS (ex _ _ _ [some (jD m ws), some (.int k), some d] s) _ _
  refine xps_seq (wps_expr ?_)
  simp only [ev_var, ev_cint, ev_cstr, ev_cbl, ev_cnon, ev_g, ev_bin, ev_neg, ev_not, ev_cmp, ev_chn, ev_chn3, ev_dst, ev_revT, ev_stp, ev_lix, ev_err, ev_srt, ev_wlk, ev_lgn, lstO_ok, ev_gf, ev_isl, ev_fld, ev_mth, ev_msp, ev_prp, ev_oln, ev_con0, ev_con1, ev_cmt, ev_oeq, ev_isp, ev_ccn, okO_ok, ev_cav, ev_cpm, ev_and, ev_or, ev_ite, ev_tup, ev_lst, ev_call, ev_bi, ev_isi, ev_idx, ev_slc, ev_rev, ev_lrng, ev_lrng1, ev_dnew, ev_cpy, ev_comp, mkTup_ok, l_lens, l_len0, Nat.reduceLeDiff, Nat.reduceAdd, evs, evo, evi, bnd_ok, sbd_ok, pur_some, wpe_ok, wps_nx, wps_rt, b_add, b_sub, c_lt, c_le, c_gt, c_ge, c_eq, c_ne, c_in, c_nin, c_is, c_isnot, l_get0, l_gets, l_set0, l_sets, o_map, l_maps, l_map0, l_apps, l_app0, List.append_nil, need_job_ok h]
  refine xps_seq (wps_expr ?_)
  simp only [ev_var, ev_cint, ev_cstr, ev_cbl, ev_cnon, ev_g, ev_bin, ev_neg, ev_not, ev_cmp, ev_chn, ev_chn3, ev_dst, ev_revT, ev_stp, ev_lix, ev_err, ev_srt, ev_wlk, ev_lgn, lstO_ok, ev_gf, ev_isl, ev_fld, ev_mth, ev_msp, ev_prp, ev_oln, ev_con0, ev_con1, ev_cmt, ev_oeq, ev_isp, ev_ccn, okO_ok, ev_cav, ev_cpm, ev_and, ev_or, ev_ite, ev_tup, ev_lst, ev_call, ev_bi, ev_isi, ev_idx, ev_slc, ev_rev, ev_lrng, ev_lrng1, ev_dnew, ev_cpy, ev_comp, mkTup_ok, l_lens, l_len0, Nat.reduceLeDiff, Nat.reduceAdd, evs, evo, evi, bnd_ok, sbd_ok, pur_some, wpe_ok, wps_nx, wps_rt, b_add, b_sub, c_lt, c_le, c_gt, c_ge, c_eq, c_ne, c_in, c_nin, c_is, c_isnot, l_get0, l_gets, l_set0, l_sets, o_map, l_maps, l_map0, l_apps, l_app0, List.append_nil, need_pages1_ok h0 hk]
  refine xps_now (xps_if ?_ (xps_now xps_rse))
  simp only [ev_var, ev_cint, ev_cstr, ev_cbl, ev_cnon, ev_g, ev_bin, ev_neg, ev_not, ev_cmp, ev_chn, ev_chn3, ev_dst, ev_revT, ev_stp, ev_lix, ev_err, ev_srt, ev_wlk, ev_lgn, lstO_ok, ev_gf, ev_isl, ev_fld, ev_mth, ev_msp, ev_prp, ev_oln, ev_con0, ev_con1, ev_cmt, ev_oeq, ev_isp, ev_ccn, okO_ok, ev_cav, ev_cpm, ev_and, ev_or, ev_ite, ev_tup, ev_lst, ev_call, ev_bi, ev_isi, ev_idx, ev_slc, ev_rev, ev_lrng, ev_lrng1, ev_dnew, ev_cpy, ev_comp, mkTup_ok, l_lens, l_len0, Nat.reduceLeDiff, Nat.reduceAdd, evs, evo, evi, bnd_ok, sbd_ok, pur_some, wpe_ok, wps_nx, wps_rt, b_add, b_sub, c_lt, c_le, c_gt, c_ge, c_eq, c_ne, c_in, c_nin, c_is, c_isnot, l_get0, l_gets, l_set0, l_sets, o_map, l_maps, l_map0, l_apps, l_app0, List.append_nil, is_integer_ok hd hs ha, hi, Bool.not_false]
def numE : D := .lst [.str "InvalidNumber", .bl true]
/-! ### sizes -/
def szs (ws : List Wd) (n : Int) : List Int := (List.range (ws.length + 1)).map fun i => lenW (ws.take i) n
theorem lenW_snoc (ws : List Wd) (w : Wd) (n : Int) : lenW (ws ++ [w]) n = w.size (lenW ws n) := by
  unfold lenW
  rw [List.foldl_append]
  rfl
theorem szs_snoc (ws : List Wd) (w : Wd) (n : Int) : szs (ws ++ [w]) n = szs ws n ++ [w.size (lenW ws n)] := by
  unfold szs
  rw [List.length_append, List.length_singleton, List.range_succ, List.map_append, List.map_singleton, List.take_of_length_le (by simp), lenW_snoc]
  congr 1
  apply List.map_congr_left
  intro i hi
  rw [List.mem_range] at hi
  rw [List.take_append_of_le_length (by omega)]
theorem szs_len (ws : List Wd) (n : Int) : (szs ws n).length = ws.length + 1 := by simp [szs]
theorem szs_get {ws : List Wd} {n : Int} {j : Nat} (h : j ≤ ws.length) : (szs ws n)[j]? = some (lenW (ws.take j) n) := by
  unfold szs
  rw [List.getElem?_map, List.getElem?_range (by omega)]
  rfl
theorem at_last {xs : List Int} {x : Int} : atI ((xs ++ [x]).map D.int) (-1) = some (.int x) := by
  have hl : ((xs ++ [x]).map D.int).length = xs.length + 1 := by simp
  unfold atI ixN
  rw [hl, if_neg (by decide), if_pos (by omega)]
  have e : ((-1 : Int) + ((xs.length + 1 : Nat) : Int)).toNat = xs.length := by omega
  rw [e]
  simp
theorem szs_last (ws : List Wd) (n : Int) : atI ((szs ws n).map D.int) (-1) = some (.int (lenW ws n)) := by
  have e : szs ws n = (List.range ws.length).map (fun i => lenW (ws.take i) n) ++ [lenW ws n] := by
    unfold szs
    rw [List.range_succ, List.map_append, List.map_singleton, List.take_length]
  rw [e, at_last]
theorem in_oh {s : Sto} {w : Wd} : inD s (wD w) (.tup [.str "odds", .str "half"]) = some (decide (w = .odds ∨ w = .half)) := by
  have : inD [] (wD w) (.tup [.str "odds", .str "half"]) = some (decide (w = .odds ∨ w = .half)) := by cases w <;> decide +kernel
  exact this
theorem in_er {s : Sto} {w : Wd} : inD s (wD w) (.tup [.str "evens", .str "rest"]) = some (decide (w = .evens ∨ w = .rest)) := by
  have : inD [] (wD w) (.tup [.str "evens", .str "rest"]) = some (decide (w = .evens ∨ w = .rest)) := by cases w <;> decide +kernel
  exact this
theorem in_oe {s : Sto} {w : Wd} : inD s (wD w) (.tup [.str "odds", .str "evens"]) = some (decide (w = .odds ∨ w = .evens)) := by
  have : inD [] (wD w) (.tup [.str "odds", .str "evens"]) = some (decide (w = .odds ∨ w = .evens)) := by cases w <;> decide +kernel
  exact this
theorem in_rs {s : Sto} {w : Wd} : inD s (wD w) (.tup [.str "rest", .str "skip"]) = some (decide (w = .rest ∨ w = .skip)) := by
  have : inD [] (wD w) (.tup [.str "rest", .str "skip"]) = some (decide (w = .rest ∨ w = .skip)) := by cases w <;> decide +kernel
  exact this
theorem in_hr {s : Sto} {w : Wd} : inD s (wD w) (.tup [.str "half", .str "rest"]) = some (decide (w = .half ∨ w = .rest)) := by
  have : inD [] (wD w) (.tup [.str "half", .str "rest"]) = some (decide (w = .half ∨ w = .rest)) := by cases w <;> decide +kernel
  exact this
theorem ix_here {s : Sto} {xs : List D} {k : Int} : idxD (s ++ [Cell.lst xs]) (.loc s.length) (.int k) = atI xs k := by
  have e : deref (s ++ [Cell.lst xs]) (.loc s.length) = .lst xs := by simp [deref]
  show (match deref (s ++ [Cell.lst xs]) (.loc s.length) with
    | .lst xs => atI xs k
    | _ => dctD (s ++ [Cell.lst xs]) (.loc s.length) (.int k)) = _
  rw [e]
/-! ### items, going back through the words -/
def bk : List Wd → Int → Int → Int
  | [], _, i => i
  | w :: ws, n, i => w.from n (bk ws (w.size n) i)
theorem bk_item : ∀ (ws : List Wd) (p : Sp) (k : Int) {i : Int}, 0 ≤ i → i < lenW ws p.n → (ws.foldl Sp.after p).item k i = p.item k (bk ws p.n i) ∧ 0 ≤ bk ws p.n i ∧ bk ws p.n i < p.n
  | [], p, k, i, h0, h => ⟨rfl, h0, h⟩
  | w :: ws, p, k, i, h0, h => by
    obtain ⟨e, b0, b1⟩ := bk_item ws (p.after w) k h0 (by rw [after_n]; exact h)
    rw [after_n] at e b0 b1
    obtain ⟨c0, c1⟩ := from_in w b0 b1
    refine ⟨?_, c0, c1⟩
    show (ws.foldl Sp.after (p.after w)).item k i = _
    rw [e, after_item p w k b0 b1]
    rfl
def itemW (m : Int) (ws : List Wd) (k i : Int) : Int := if bk ws (rnd m k) i < k then bk ws (rnd m k) i + 1 else 0
theorem itemW_eq {m k i : Int} {ws : List Wd} (h0 : 0 ≤ i) (h : i < (spanOf m ws k).n) : itemW m ws k i = (spanOf m ws k).item k i := by
  rw [spanOf_n] at h
  obtain ⟨e, b0, b1⟩ := bk_item ws ⟨1, 1, rnd m k⟩ k h0 h
  have e : (spanOf m ws k).item k i = (⟨1, 1, rnd m k⟩ : Sp).item k (bk ws (rnd m k) i) := e
  have b1 : bk ws (rnd m k) i < rnd m k := b1
  rw [e]
  unfold itemW Sp.item
  dsimp only
  split <;> split <;> omega
end EV

set_option maxHeartbeats 4000000
set_option pp.maxSteps 300
/-! rows word by word as lists; places in a list -/
namespace EV
open PySem PySem.Spec PyProof.Rows L2
theorem evenL_map {α β : Type} (f : α → β) : ∀ xs : List α, evenL (xs.map f) = (evenL xs).map f
  | [] => rfl
  | [_] => rfl
  | x :: _ :: r => by
    show f x :: evenL (r.map f) = f x :: (evenL r).map f
    rw [evenL_map f r]
theorem evL_get {α : Type} : ∀ (xs : List α) (j : Nat), (evenL xs)[j]? = xs[2 * j]?
  | [], j => by simp [evenL]
  | [x], 0 => rfl
  | [x], j + 1 => by simp [evenL]
  | x :: y :: r, 0 => rfl
  | x :: y :: r, j + 1 => by
    show (evenL r)[j]? = _
    rw [evL_get r j, show 2 * (j + 1) = 2 * j + 1 + 1 by omega]
    rfl
theorem evL_len {α : Type} : ∀ xs : List α, (evenL xs).length = (xs.length + 1) / 2
  | [] => by simp [evenL]
  | [x] => by simp [evenL]
  | x :: y :: r => by
    show (evenL r).length + 1 = (r.length + 1 + 1 + 1) / 2
    rw [evL_len r]
    omega
def cutL (w : Wd) (xs : List Int) : List Int :=
  match w with
  | .turn => xs.reverse
  | .odds => evenL xs
  | .evens => evenL (xs.drop 1)
  | .half => xs.take ((xs.length + 1) / 2)
  | .rest => xs.drop ((xs.length + 1) / 2)
  | .skip => xs.drop 1
  | .cut => xs.take (xs.length - 1)
structure Rep (xs : List Int) (p : Sp) : Prop where
  len : (xs.length : Int) = p.n
  get : ∀ j : Nat, j < xs.length → xs[j]? = some (p.f + p.s * (j : Int))
theorem cutL_get {xs : List Int} {w : Wd} {j : Nat} (hj : (j : Int) < w.size xs.length) : (cutL w xs)[j]? = xs[(w.from xs.length j).toNat]? := by
  cases w with
  | turn =>
    simp only [cutL, Wd.from, Wd.size] at hj ⊢
    rw [List.getElem?_reverse (by omega)]
    congr 1 <;> omega
  | odds =>
    simp only [cutL, Wd.from]
    rw [evL_get]
    congr 1 <;> omega
  | evens =>
    simp only [cutL, Wd.from]
    rw [evL_get, List.getElem?_drop]
    congr 1 <;> omega
  | half =>
    simp only [cutL, Wd.from, Wd.size] at hj ⊢
    rw [List.getElem?_take, if_pos (by omega)]
    congr 1
  | rest =>
    simp only [cutL, Wd.from]
    rw [List.getElem?_drop]
    congr 1 <;> omega
  | skip =>
    simp only [cutL, Wd.from]
    rw [List.getElem?_drop]
    congr 1 <;> omega
  | cut =>
    simp only [cutL, Wd.from, Wd.size] at hj ⊢
    rw [List.getElem?_take, if_pos (by omega)]
    congr 1
theorem Rep.cut {xs : List Int} {p : Sp} (h : Rep xs p) (w : Wd) : Rep (cutL w xs) (p.after w) := by
  have hl : ((cutL w xs).length : Int) = w.size p.n := by
    rw [← h.len]
    cases w <;> simp only [cutL, Wd.size, List.length_reverse, evL_len, List.length_drop, List.length_take] <;> omega
  refine ⟨by rw [hl, after_n], fun j hj => ?_⟩
  have hj' : (j : Int) < w.size p.n := by omega
  obtain ⟨a, b⟩ := from_in w (Int.natCast_nonneg j) hj'
  rw [after_at]
  have hn := h.len
  rw [cutL_get (by rw [hn]; exact hj'), hn, h.get _ (by omega), Int.toNat_of_nonneg a]
theorem Rep.row {xs : List Int} {p : Sp} {k : Int} (h : Rep xs p) : xs.map (fun x => if x ≤ k then x else 0) = p.row k := by
  have hn := h.len
  refine List.ext_getElem? fun j => ?_
  unfold Sp.row
  rw [List.getElem?_map, List.getElem?_map]
  by_cases q : j < xs.length
  · rw [h.get j q, List.getElem?_range (by omega)]
    show some _ = some (p.item k (j : Nat))
    unfold Sp.item
    have : (j : Int) < p.n := by omega
    simp only [this, true_and]
  · rw [List.getElem?_eq_none (by omega), List.getElem?_eq_none (by rw [List.length_range]; omega)]
    rfl
theorem cut_fromL {xs : List D} {j : Nat} : cutD xs (some (j : Nat)) none = xs.drop j := by
  unfold cutD
  rw [HT.sIx_none, HT.sIx_nat]
  by_cases h : j ≤ xs.length
  · rw [Nat.min_eq_left h, List.take_of_length_le (by rw [List.length_drop]; omega)]
  · rw [Nat.min_eq_right (by omega), Nat.sub_self, List.take_zero, List.drop_eq_nil_of_le (by omega)]
theorem cut_toL {xs : List D} {j : Nat} : cutD xs none (some (j : Nat)) = xs.take j := by
  unfold cutD
  rw [HT.sIx_none, HT.sIx_nat, List.drop_zero, Nat.sub_zero, List.take_eq_take_iff]
  omega
theorem sl_from {s : Sto} {xs : List Int} {i : Int} (h : 0 ≤ i) : slcD s (.lst (xs.map .int)) (some i) none = some (.lst ((xs.drop i.toNat).map .int)) := by
  have e : slcD s (.lst (xs.map .int)) (some i) none = some (.lst (cutD (xs.map .int) (some i) none)) := nr rfl
  have e2 : i = ((i.toNat : Nat) : Int) := by omega
  rw [e, e2, cut_fromL, List.map_drop, Int.toNat_natCast]
theorem sl_to {s : Sto} {xs : List Int} {i : Int} (h : 0 ≤ i) : slcD s (.lst (xs.map .int)) none (some i) = some (.lst ((xs.take i.toNat).map .int)) := by
  have e : slcD s (.lst (xs.map .int)) none (some i) = some (.lst (cutD (xs.map .int) none (some i))) := nr rfl
  have e2 : i = ((i.toNat : Nat) : Int) := by omega
  rw [e, e2, cut_toL, List.map_take, Int.toNat_natCast]
theorem len_ints {s : Sto} {xs : List Int} : biD .len s [.lst (xs.map .int)] = some (.int (xs.length : Nat)) := by
  show some (D.int ((xs.map D.int).length : Nat)) = _
  rw [List.length_map]
theorem l_after_ok {n : Nat} {w : Wd} {xs : List Int} {s : Sto} : cal GG (n + 1) i_l_after [.lst (xs.map .int), wD w] s = some (.ok (.lst ((cutL w xs).map .int)) s) := by
  refine cal_pure Gi_l_after rfl rfl (by simp only [noloc, ints_noloc]) ?_
  show WPS (ex _ _ _ [some (.lst (xs.map .int)), some (wD w), none] s) _ _
  have hd2 : ∀ j, CDivN j 2 := fun j => ⟨by decide, by decide⟩
  have hr : ∀ s, revD s (.lst (xs.map .int)) = some (.lst (xs.reverse.map .int)) := fun s => by
    show some (D.lst (xs.map D.int).reverse) = _
    rw [List.map_reverse]
  have hs0 : ∀ s, stpD s (.lst (xs.map .int)) (.int 0) = some (.lst ((evenL xs).map .int)) := fun s => by
    show (if (0 : Int) ≤ 0 then some (D.lst (evenL ((xs.map D.int).drop (0 : Int).toNat))) else none) = _
    rw [if_pos (by omega), ← evenL_map]
    rfl
  have hs1 : ∀ s, stpD s (.lst (xs.map .int)) (.int 1) = some (.lst ((evenL (xs.drop 1)).map .int)) := fun s => by
    show (if (0 : Int) ≤ 1 then some (D.lst (evenL ((xs.map D.int).drop (1 : Int).toNat))) else none) = _
    rw [if_pos (by omega), ← evenL_map, List.map_drop]
    rfl
  have ib : ∀ (b : Bool) (s : Sto), biD .int s [.bl b] = some (.int (if b = true then 1 else 0)) := fun b s => rfl
  have hM : (0 : Int) ≤ ((xs.length : Nat) + 1) / 2 := by omega
  have hM2 : (((xs.length : Nat) + 1) / 2 : Int).toNat = (xs.length + 1) / 2 := by omega
  refine wps_seq (wps_if (b := decide (w = .turn)) (WPE.of_eq ?_) (fun z => ?_) fun z => ?_)
  · simp only [ev_var, ev_cint, ev_cstr, ev_cbl, ev_cnon, ev_g, ev_bin, ev_neg, ev_not, ev_cmp, ev_chn, ev_chn3, ev_dst, ev_revT, ev_stp, ev_lix, ev_err, ev_srt, ev_wlk, ev_lgn, lstO_ok, ev_gf, ev_isl, ev_fld, ev_mth, ev_msp, ev_prp, ev_oln, ev_con0, ev_con1, ev_cmt, ev_oeq, ev_isp, ev_ccn, okO_ok, ev_cav, ev_cpm, ev_and, ev_or, ev_ite, ev_tup, ev_lst, ev_call, ev_bi, ev_isi, ev_idx, ev_slc, ev_rev, ev_lrng, ev_lrng1, ev_dnew, ev_cpy, ev_comp, mkTup_ok, l_lens, l_len0, Nat.reduceLeDiff, Nat.reduceAdd, evs, evo, evi, bnd_ok, sbd_ok, pur_some, wpe_ok, wps_nx, wps_rt, b_add, b_sub, c_lt, c_le, c_gt, c_ge, c_eq, c_ne, c_in, c_nin, c_is, c_isnot, l_get0, l_gets, l_set0, l_sets, o_map, l_maps, l_map0, l_apps, l_app0, List.append_nil, q_turn]
  · have z := of_decide_eq_true z
    subst z
    refine wps_seq (wps_ret ?_)
    simp only [ev_var, ev_cint, ev_cstr, ev_cbl, ev_cnon, ev_g, ev_bin, ev_neg, ev_not, ev_cmp, ev_chn, ev_chn3, ev_dst, ev_revT, ev_stp, ev_lix, ev_err, ev_srt, ev_wlk, ev_lgn, lstO_ok, ev_gf, ev_isl, ev_fld, ev_mth, ev_msp, ev_prp, ev_oln, ev_con0, ev_con1, ev_cmt, ev_oeq, ev_isp, ev_ccn, okO_ok, ev_cav, ev_cpm, ev_and, ev_or, ev_ite, ev_tup, ev_lst, ev_call, ev_bi, ev_isi, ev_idx, ev_slc, ev_rev, ev_lrng, ev_lrng1, ev_dnew, ev_cpy, ev_comp, mkTup_ok, l_lens, l_len0, Nat.reduceLeDiff, Nat.reduceAdd, evs, evo, evi, bnd_ok, sbd_ok, pur_some, wpe_ok, wps_nx, wps_rt, b_add, b_sub, c_lt, c_le, c_gt, c_ge, c_eq, c_ne, c_in, c_nin, c_is, c_isnot, l_get0, l_gets, l_set0, l_sets, o_map, l_maps, l_map0, l_apps, l_app0, List.append_nil, hr]
    exact ⟨rfl, trivial⟩
  · have z := of_decide_eq_false z
    refine wps_skip (wps_seq (wps_if (b := decide (w = .odds ∨ w = .evens)) (WPE.of_eq ?_) (fun z2 => ?_) fun z2 => ?_))
    · simp only [ev_var, ev_cint, ev_cstr, ev_cbl, ev_cnon, ev_g, ev_bin, ev_neg, ev_not, ev_cmp, ev_chn, ev_chn3, ev_dst, ev_revT, ev_stp, ev_lix, ev_err, ev_srt, ev_wlk, ev_lgn, lstO_ok, ev_gf, ev_isl, ev_fld, ev_mth, ev_msp, ev_prp, ev_oln, ev_con0, ev_con1, ev_cmt, ev_oeq, ev_isp, ev_ccn, okO_ok, ev_cav, ev_cpm, ev_and, ev_or, ev_ite, ev_tup, ev_lst, ev_call, ev_bi, ev_isi, ev_idx, ev_slc, ev_rev, ev_lrng, ev_lrng1, ev_dnew, ev_cpy, ev_comp, mkTup_ok, l_lens, l_len0, Nat.reduceLeDiff, Nat.reduceAdd, evs, evo, evi, bnd_ok, sbd_ok, pur_some, wpe_ok, wps_nx, wps_rt, b_add, b_sub, c_lt, c_le, c_gt, c_ge, c_eq, c_ne, c_in, c_nin, c_is, c_isnot, l_get0, l_gets, l_set0, l_sets, o_map, l_maps, l_map0, l_apps, l_app0, List.append_nil, in_oe]
    · rcases of_decide_eq_true z2 with rfl | rfl
      · refine wps_seq (wps_ret ?_)
        have q : decide (Wd.odds = Wd.evens) = false := by decide
        simp only [ev_var, ev_cint, ev_cstr, ev_cbl, ev_cnon, ev_g, ev_bin, ev_neg, ev_not, ev_cmp, ev_chn, ev_chn3, ev_dst, ev_revT, ev_stp, ev_lix, ev_err, ev_srt, ev_wlk, ev_lgn, lstO_ok, ev_gf, ev_isl, ev_fld, ev_mth, ev_msp, ev_prp, ev_oln, ev_con0, ev_con1, ev_cmt, ev_oeq, ev_isp, ev_ccn, okO_ok, ev_cav, ev_cpm, ev_and, ev_or, ev_ite, ev_tup, ev_lst, ev_call, ev_bi, ev_isi, ev_idx, ev_slc, ev_rev, ev_lrng, ev_lrng1, ev_dnew, ev_cpy, ev_comp, mkTup_ok, l_lens, l_len0, Nat.reduceLeDiff, Nat.reduceAdd, evs, evo, evi, bnd_ok, sbd_ok, pur_some, wpe_ok, wps_nx, wps_rt, b_add, b_sub, c_lt, c_le, c_gt, c_ge, c_eq, c_ne, c_in, c_nin, c_is, c_isnot, l_get0, l_gets, l_set0, l_sets, o_map, l_maps, l_map0, l_apps, l_app0, List.append_nil, q_evens, q, ib, Bool.false_eq_true, if_false, hs0]
        exact ⟨rfl, trivial⟩
      · refine wps_seq (wps_ret ?_)
        simp only [ev_var, ev_cint, ev_cstr, ev_cbl, ev_cnon, ev_g, ev_bin, ev_neg, ev_not, ev_cmp, ev_chn, ev_chn3, ev_dst, ev_revT, ev_stp, ev_lix, ev_err, ev_srt, ev_wlk, ev_lgn, lstO_ok, ev_gf, ev_isl, ev_fld, ev_mth, ev_msp, ev_prp, ev_oln, ev_con0, ev_con1, ev_cmt, ev_oeq, ev_isp, ev_ccn, okO_ok, ev_cav, ev_cpm, ev_and, ev_or, ev_ite, ev_tup, ev_lst, ev_call, ev_bi, ev_isi, ev_idx, ev_slc, ev_rev, ev_lrng, ev_lrng1, ev_dnew, ev_cpy, ev_comp, mkTup_ok, l_lens, l_len0, Nat.reduceLeDiff, Nat.reduceAdd, evs, evo, evi, bnd_ok, sbd_ok, pur_some, wpe_ok, wps_nx, wps_rt, b_add, b_sub, c_lt, c_le, c_gt, c_ge, c_eq, c_ne, c_in, c_nin, c_is, c_isnot, l_get0, l_gets, l_set0, l_sets, o_map, l_maps, l_map0, l_apps, l_app0, List.append_nil, q_evens, decide_true, ib, if_true, hs1]
        exact ⟨rfl, trivial⟩
    · have z2 := of_decide_eq_false z2
      refine wps_skip (wps_seq (wps_set ?_))
      simp only [ev_var, ev_cint, ev_cstr, ev_cbl, ev_cnon, ev_g, ev_bin, ev_neg, ev_not, ev_cmp, ev_chn, ev_chn3, ev_dst, ev_revT, ev_stp, ev_lix, ev_err, ev_srt, ev_wlk, ev_lgn, lstO_ok, ev_gf, ev_isl, ev_fld, ev_mth, ev_msp, ev_prp, ev_oln, ev_con0, ev_con1, ev_cmt, ev_oeq, ev_isp, ev_ccn, okO_ok, ev_cav, ev_cpm, ev_and, ev_or, ev_ite, ev_tup, ev_lst, ev_call, ev_bi, ev_isi, ev_idx, ev_slc, ev_rev, ev_lrng, ev_lrng1, ev_dnew, ev_cpy, ev_comp, mkTup_ok, l_lens, l_len0, Nat.reduceLeDiff, Nat.reduceAdd, evs, evo, evi, bnd_ok, sbd_ok, pur_some, wpe_ok, wps_nx, wps_rt, b_add, b_sub, c_lt, c_le, c_gt, c_ge, c_eq, c_ne, c_in, c_nin, c_is, c_isnot, l_get0, l_gets, l_set0, l_sets, o_map, l_maps, l_map0, l_apps, l_app0, List.append_nil, len_ints, b_fdiv (hd2 _), fdiv_two]
      refine wps_seq (wps_if (b := decide (w = .half ∨ w = .rest)) (WPE.of_eq ?_) (fun z3 => ?_) fun z3 => ?_)
      · simp only [ev_var, ev_cint, ev_cstr, ev_cbl, ev_cnon, ev_g, ev_bin, ev_neg, ev_not, ev_cmp, ev_chn, ev_chn3, ev_dst, ev_revT, ev_stp, ev_lix, ev_err, ev_srt, ev_wlk, ev_lgn, lstO_ok, ev_gf, ev_isl, ev_fld, ev_mth, ev_msp, ev_prp, ev_oln, ev_con0, ev_con1, ev_cmt, ev_oeq, ev_isp, ev_ccn, okO_ok, ev_cav, ev_cpm, ev_and, ev_or, ev_ite, ev_tup, ev_lst, ev_call, ev_bi, ev_isi, ev_idx, ev_slc, ev_rev, ev_lrng, ev_lrng1, ev_dnew, ev_cpy, ev_comp, mkTup_ok, l_lens, l_len0, Nat.reduceLeDiff, Nat.reduceAdd, evs, evo, evi, bnd_ok, sbd_ok, pur_some, wpe_ok, wps_nx, wps_rt, b_add, b_sub, c_lt, c_le, c_gt, c_ge, c_eq, c_ne, c_in, c_nin, c_is, c_isnot, l_get0, l_gets, l_set0, l_sets, o_map, l_maps, l_map0, l_apps, l_app0, List.append_nil, in_hr]
      · rcases of_decide_eq_true z3 with rfl | rfl
        · refine wps_seq (wps_ret ?_)
          simp only [ev_var, ev_cint, ev_cstr, ev_cbl, ev_cnon, ev_g, ev_bin, ev_neg, ev_not, ev_cmp, ev_chn, ev_chn3, ev_dst, ev_revT, ev_stp, ev_lix, ev_err, ev_srt, ev_wlk, ev_lgn, lstO_ok, ev_gf, ev_isl, ev_fld, ev_mth, ev_msp, ev_prp, ev_oln, ev_con0, ev_con1, ev_cmt, ev_oeq, ev_isp, ev_ccn, okO_ok, ev_cav, ev_cpm, ev_and, ev_or, ev_ite, ev_tup, ev_lst, ev_call, ev_bi, ev_isi, ev_idx, ev_slc, ev_rev, ev_lrng, ev_lrng1, ev_dnew, ev_cpy, ev_comp, mkTup_ok, l_lens, l_len0, Nat.reduceLeDiff, Nat.reduceAdd, evs, evo, evi, bnd_ok, sbd_ok, pur_some, wpe_ok, wps_nx, wps_rt, b_add, b_sub, c_lt, c_le, c_gt, c_ge, c_eq, c_ne, c_in, c_nin, c_is, c_isnot, l_get0, l_gets, l_set0, l_sets, o_map, l_maps, l_map0, l_apps, l_app0, List.append_nil, q_half, decide_true, sl_to hM, hM2]
          exact ⟨rfl, trivial⟩
        · refine wps_seq (wps_ret ?_)
          have q : decide (Wd.rest = Wd.half) = false := by decide
          simp only [ev_var, ev_cint, ev_cstr, ev_cbl, ev_cnon, ev_g, ev_bin, ev_neg, ev_not, ev_cmp, ev_chn, ev_chn3, ev_dst, ev_revT, ev_stp, ev_lix, ev_err, ev_srt, ev_wlk, ev_lgn, lstO_ok, ev_gf, ev_isl, ev_fld, ev_mth, ev_msp, ev_prp, ev_oln, ev_con0, ev_con1, ev_cmt, ev_oeq, ev_isp, ev_ccn, okO_ok, ev_cav, ev_cpm, ev_and, ev_or, ev_ite, ev_tup, ev_lst, ev_call, ev_bi, ev_isi, ev_idx, ev_slc, ev_rev, ev_lrng, ev_lrng1, ev_dnew, ev_cpy, ev_comp, mkTup_ok, l_lens, l_len0, Nat.reduceLeDiff, Nat.reduceAdd, evs, evo, evi, bnd_ok, sbd_ok, pur_some, wpe_ok, wps_nx, wps_rt, b_add, b_sub, c_lt, c_le, c_gt, c_ge, c_eq, c_ne, c_in, c_nin, c_is, c_isnot, l_get0, l_gets, l_set0, l_sets, o_map, l_maps, l_map0, l_apps, l_app0, List.append_nil, q_half, q, sl_from hM, hM2]
          exact ⟨rfl, trivial⟩
      · have z3 := of_decide_eq_false z3
        refine wps_skip (wps_seq (wps_ret ?_))
        have h1 : (0 : Int) ≤ 1 := by decide
        have h2 : (0 : Int) ≤ max 0 ((xs.length : Int) - 1) := by omega
        have h3 : (max 0 ((xs.length : Int) - 1) : Int).toNat = xs.length - 1 := by omega
        cases w with
        | turn => exact absurd rfl z
        | odds => exact absurd (.inl rfl) z2
        | evens => exact absurd (.inr rfl) z2
        | half => exact absurd (.inl rfl) z3
        | rest => exact absurd (.inr rfl) z3
        | skip =>
          simp only [ev_var, ev_cint, ev_cstr, ev_cbl, ev_cnon, ev_g, ev_bin, ev_neg, ev_not, ev_cmp, ev_chn, ev_chn3, ev_dst, ev_revT, ev_stp, ev_lix, ev_err, ev_srt, ev_wlk, ev_lgn, lstO_ok, ev_gf, ev_isl, ev_fld, ev_mth, ev_msp, ev_prp, ev_oln, ev_con0, ev_con1, ev_cmt, ev_oeq, ev_isp, ev_ccn, okO_ok, ev_cav, ev_cpm, ev_and, ev_or, ev_ite, ev_tup, ev_lst, ev_call, ev_bi, ev_isi, ev_idx, ev_slc, ev_rev, ev_lrng, ev_lrng1, ev_dnew, ev_cpy, ev_comp, mkTup_ok, l_lens, l_len0, Nat.reduceLeDiff, Nat.reduceAdd, evs, evo, evi, bnd_ok, sbd_ok, pur_some, wpe_ok, wps_nx, wps_rt, b_add, b_sub, c_lt, c_le, c_gt, c_ge, c_eq, c_ne, c_in, c_nin, c_is, c_isnot, l_get0, l_gets, l_set0, l_sets, o_map, l_maps, l_map0, l_apps, l_app0, List.append_nil, q_skip, decide_true, sl_from h1]
          exact ⟨rfl, trivial⟩
        | cut =>
          have q : decide (Wd.cut = Wd.skip) = false := by decide
          have hx : ∀ a b : Int, biD .max s [.int a, .int b] = some (.int (max a b)) := fun a b => max2
          simp only [ev_var, ev_cint, ev_cstr, ev_cbl, ev_cnon, ev_g, ev_bin, ev_neg, ev_not, ev_cmp, ev_chn, ev_chn3, ev_dst, ev_revT, ev_stp, ev_lix, ev_err, ev_srt, ev_wlk, ev_lgn, lstO_ok, ev_gf, ev_isl, ev_fld, ev_mth, ev_msp, ev_prp, ev_oln, ev_con0, ev_con1, ev_cmt, ev_oeq, ev_isp, ev_ccn, okO_ok, ev_cav, ev_cpm, ev_and, ev_or, ev_ite, ev_tup, ev_lst, ev_call, ev_bi, ev_isi, ev_idx, ev_slc, ev_rev, ev_lrng, ev_lrng1, ev_dnew, ev_cpy, ev_comp, mkTup_ok, l_lens, l_len0, Nat.reduceLeDiff, Nat.reduceAdd, evs, evo, evi, bnd_ok, sbd_ok, pur_some, wpe_ok, wps_nx, wps_rt, b_add, b_sub, c_lt, c_le, c_gt, c_ge, c_eq, c_ne, c_in, c_nin, c_is, c_isnot, l_get0, l_gets, l_set0, l_sets, o_map, l_maps, l_map0, l_apps, l_app0, List.append_nil, q_skip, q, len_ints, hx, sl_to h2, h3]
          exact ⟨rfl, trivial⟩
theorem rep_0 {R : Int} (h : 0 ≤ R) : Rep (pgs R) ⟨1, 1, R⟩ := by
  refine ⟨by
    rw [pgs_len]
    show ((R.toNat : Nat) : Int) = R
    omega, fun j hj => ?_⟩
  rw [pgs_len] at hj
  unfold pgs
  rw [List.getElem?_map, List.getElem?_range hj]
  show some (1 + (j : Int)) = some (1 + 1 * (j : Int))
  rw [Int.one_mul]
/-! ### places -/
theorem ixI_mem {x : Int} : ∀ {xs : List Int}, x ∈ xs → ∃ j, ixI x xs = some j
  | [], h => absurd h List.not_mem_nil
  | y :: r, h => by
    unfold ixI
    by_cases q : y = x
    · exact ⟨0, if_pos q⟩
    · rw [if_neg q]
      obtain ⟨j, e⟩ := ixI_mem (xs := r) (by
        rcases List.mem_cons.mp h with e | e
        · exact absurd e.symm q
        · exact e)
      exact ⟨j + 1, by rw [e]; rfl⟩
theorem ints_ofL (xs : List Int) : intsOf (xs.map .int) = some xs := by
  induction xs with
  | nil => rfl
  | cons x r ih => simp [intsOf, ih]
theorem row_at {p : Sp} {k : Int} {j : Nat} {x : Int} (h : (p.row k)[j]? = some x) : (j : Int) < p.n ∧ p.item k (j : Nat) = x := by
  unfold Sp.row at h
  rw [List.getElem?_map] at h
  obtain ⟨i, hi, e⟩ := Option.map_eq_some_iff.mp h
  obtain ⟨h1, h2⟩ := List.getElem?_eq_some_iff.mp hi
  rw [List.getElem_range] at h2
  rw [List.length_range] at h1
  subst h2
  exact ⟨by omega, e⟩
theorem lix_row {s : Sto} {p : Sp} {k page : Int} (hs : p.s ≠ 0) (h1 : 1 ≤ page) (hm : page ∈ p.row k) : lixD s (.lst ((p.row k).map .int)) (.int page) = some (indexD p page) := by
  obtain ⟨j, e⟩ := ixI_mem hm
  obtain ⟨a, b⟩ := row_at (ixI_ok e).1
  have e2 : lixD s (.lst ((p.row k).map .int)) (.int page) = (ixI page (p.row k)).map fun j => D.int (j : Nat) := by
    show (match intsOf ((p.row k).map .int), D.int page with
      | some ns, .int k => (ixI k ns).map fun j => D.int (j : Nat)
      | _, _ => none) = _
    rw [ints_ofL]
  rw [e2, e]
  have hv : p.f + p.s * (j : Int) = page := by
    unfold Sp.item at b
    split at b
    · exact b
    · omega
  rw [← hv, indexD_at hs (by omega) a]
  rfl
theorem lix_none {p : Sp} {k page : Int} (hk : page ≤ k) (hm : ¬ page ∈ p.row k) : indexD p page = .non := by
  refine indexD_no fun i h0 h1 e => hm (row_mem.mpr ⟨i.toNat, by omega, ?_⟩)
  rw [Int.toNat_of_nonneg h0]
  unfold Sp.item
  rw [if_pos ⟨h1, by omega⟩, e]
/-! ### long rows -/
theorem numE_eq (s : Sto) : eqD s numE (.lst [.str "InvalidNumber", .bl true]) = some true := by
  have : eqD [] numE (.lst [.str "InvalidNumber", .bl true]) = some true := by decide +kernel
  exact this
theorem fal {P : Prop} (h : false = true) : P := absurd h (by decide)
end EV

set_option maxHeartbeats 4000000
set_option pp.maxSteps 300
/-! rows that are walked -/
namespace EV
open PySem PySem.Spec PyProof.Rows L2
theorem small_len {n : Nat} (h : n ≤ 10000) : n ≤ sizeLine := by
  have : sizeLine = 16777216 := rfl
  omega
theorem row_len5 {p : Sp} {k : Int} (h : 0 ≤ p.n) : (((p.row k).length : Nat) : Int) = p.n := by
  rw [Sp.row, List.length_map, List.length_range]
  omega
theorem row_size {p : Sp} {k : Int} (h : p.n ≤ 10000) : ((p.row k).map D.int).length ≤ sizeLine := small_len (by
  rw [List.length_map, Sp.row, List.length_map, List.length_range]
  omega)
section
variable {n : Nat} {m k : Int} {ws : List Wd} {s : Sto}
/-- a generator def's run -/
theorem cal_wpG {G : Nat → Option Ent} {n i : Nat} {F : Fn} {ds : List D} {Q : D → Sto → Prop} (h : G i = some (.gen F)) (hl : ds.length = F.np)
    (hw : WPS (ex (cal G n) s.length F.body (ds.map some ++ List.replicate (F.ns - F.np) none) s) (fun _ _ => False) (fun r s1 => WPE (fin F.fz s.length s1 r) Q)) : WPE (cal G (n + 2) i ds s) Q := by
  rw [cal_gen h]
  unfold run
  rw [if_pos hl]
  match e : ex (cal G n) s.length F.body (ds.map some ++ List.replicate (F.ns - F.np) none) s with
  | some (.ret d s1) =>
    rw [e] at hw
    exact hw
  | some (.nx ρ1 s1) =>
    rw [e] at hw
    exact hw.elim
  | some (.exc k ρ s1) =>
    rw [e] at hw
    exact hw.elim
  | none =>
    rw [e] at hw
    exact hw.elim
theorem walk_ok (h : JOk m ws) (h0 : 0 ≤ k) (hk : k ≤ 300) : cal GG (n + 6) i_walk [jD m ws, .int k] s = some (.ok (.lst ((rowOf m ws k).map .int)) s) := by
  refine WPE.eq (cal_wpG Gi_walk rfl ?_)
  show WPS (ex _ _ _ [some (jD m ws), some (.int k), none, none] s) _ _
  have hm := h.1.pos
  have hl := h.2
  have hll : longI = 1000000000000000 := rfl
  obtain ⟨o1, o2, _⟩ := spanOf_ok (ws := ws) hm.1 h0
  have o3 := spanOf_s (ws := ws) hm.1 h0 (by omega)
  obtain ⟨p, hp⟩ : ∃ p, p = spanOf m ws k := ⟨_, rfl⟩
  have er : rowOf m ws k = p.row k := by rw [hp]; rfl
  rw [← hp] at o1 o2 o3
  have n0 := o1.n0
  have hs : small62 p.n := ⟨by omega, by omega⟩
  have i2 : ∀ s, idxD s (spD p) (.int 2) = some (.int p.n) := fun s => by rw [spD, ix_tup, at_2]
  have hsp := fun s => span_of_ok (n := n + 2) (s := s) (p := k) hm.1 (by omega) (by omega : ws.length ≤ 50)
  rw [← hp] at hsp
  have hc : ∀ ρ3 : Env, ρ3 = [some (jD m ws), some (.int k), some (spD p), none] → compL (item (cal GG (n + 4)) (.tnm 3) (.call i_item_of (.cons (.var 2) (.cons (.var 1) (.cons (.var 3) .nil)))) (.cbl true) [3] ρ3) (rngL 0 p.n) s = some (.ok ((p.row k).map .int) s) := fun ρ3 hρ => by
    subst hρ
    have hi := fun i => item_of_ok (n := n + 3) (k := k) (i := i) (s := s) (p := p) (by omega)
    exact compL_range (g := fun i => p.item k i) fun i _ => by simp only [ev_var, ev_cint, ev_cstr, ev_cbl, ev_cnon, ev_g, ev_bin, ev_neg, ev_not, ev_cmp, ev_chn, ev_chn3, ev_dst, ev_revT, ev_stp, ev_lix, ev_err, ev_srt, ev_wlk, ev_lgn, lstO_ok, ev_gf, ev_isl, ev_fld, ev_mth, ev_msp, ev_prp, ev_oln, ev_con0, ev_con1, ev_cmt, ev_oeq, ev_isp, ev_ccn, okO_ok, ev_cav, ev_cpm, ev_and, ev_or, ev_ite, ev_tup, ev_lst, ev_call, ev_bi, ev_isi, ev_idx, ev_slc, ev_rev, ev_lrng, ev_lrng1, ev_dnew, ev_cpy, ev_comp, mkTup_ok, l_lens, l_len0, Nat.reduceLeDiff, Nat.reduceAdd, evs, evo, evi, bnd_ok, sbd_ok, pur_some, wpe_ok, wps_nx, wps_rt, b_add, b_sub, c_lt, c_le, c_gt, c_ge, c_eq, c_ne, c_in, c_nin, c_is, c_isnot, l_get0, l_gets, l_set0, l_sets, o_map, l_maps, l_map0, l_apps, l_app0, List.append_nil, if_true, le_size, fresh_f', item, bindT, wipeE, hi]
  refine wps_seq (wps_expr ?_)
  simp only [ev_var, ev_cint, ev_cstr, ev_cbl, ev_cnon, ev_g, ev_bin, ev_neg, ev_not, ev_cmp, ev_chn, ev_chn3, ev_dst, ev_revT, ev_stp, ev_lix, ev_err, ev_srt, ev_wlk, ev_lgn, lstO_ok, ev_gf, ev_isl, ev_fld, ev_mth, ev_msp, ev_prp, ev_oln, ev_con0, ev_con1, ev_cmt, ev_oeq, ev_isp, ev_ccn, okO_ok, ev_cav, ev_cpm, ev_and, ev_or, ev_ite, ev_tup, ev_lst, ev_call, ev_bi, ev_isi, ev_idx, ev_slc, ev_rev, ev_lrng, ev_lrng1, ev_dnew, ev_cpy, ev_comp, mkTup_ok, l_lens, l_len0, Nat.reduceLeDiff, Nat.reduceAdd, evs, evo, evi, bnd_ok, sbd_ok, pur_some, wpe_ok, wps_nx, wps_rt, b_add, b_sub, c_lt, c_le, c_gt, c_ge, c_eq, c_ne, c_in, c_nin, c_is, c_isnot, l_get0, l_gets, l_set0, l_sets, o_map, l_maps, l_map0, l_apps, l_app0, List.append_nil, need_job_ok h]
  refine wps_seq (wps_expr ?_)
  simp only [ev_var, ev_cint, ev_cstr, ev_cbl, ev_cnon, ev_g, ev_bin, ev_neg, ev_not, ev_cmp, ev_chn, ev_chn3, ev_dst, ev_revT, ev_stp, ev_lix, ev_err, ev_srt, ev_wlk, ev_lgn, lstO_ok, ev_gf, ev_isl, ev_fld, ev_mth, ev_msp, ev_prp, ev_oln, ev_con0, ev_con1, ev_cmt, ev_oeq, ev_isp, ev_ccn, okO_ok, ev_cav, ev_cpm, ev_and, ev_or, ev_ite, ev_tup, ev_lst, ev_call, ev_bi, ev_isi, ev_idx, ev_slc, ev_rev, ev_lrng, ev_lrng1, ev_dnew, ev_cpy, ev_comp, mkTup_ok, l_lens, l_len0, Nat.reduceLeDiff, Nat.reduceAdd, evs, evo, evi, bnd_ok, sbd_ok, pur_some, wpe_ok, wps_nx, wps_rt, b_add, b_sub, c_lt, c_le, c_gt, c_ge, c_eq, c_ne, c_in, c_nin, c_is, c_isnot, l_get0, l_gets, l_set0, l_sets, o_map, l_maps, l_map0, l_apps, l_app0, List.append_nil, need_pages1_ok h0 (by omega : k ≤ longI)]
  refine wps_seq (wps_set (WPE.mk (a := spD p) (s := s) (by simp only [ev_var, ev_cint, ev_cstr, ev_cbl, ev_cnon, ev_g, ev_bin, ev_neg, ev_not, ev_cmp, ev_chn, ev_chn3, ev_dst, ev_revT, ev_stp, ev_lix, ev_err, ev_srt, ev_wlk, ev_lgn, lstO_ok, ev_gf, ev_isl, ev_fld, ev_mth, ev_msp, ev_prp, ev_oln, ev_con0, ev_con1, ev_cmt, ev_oeq, ev_isp, ev_ccn, okO_ok, ev_cav, ev_cpm, ev_and, ev_or, ev_ite, ev_tup, ev_lst, ev_call, ev_bi, ev_isi, ev_idx, ev_slc, ev_rev, ev_lrng, ev_lrng1, ev_dnew, ev_cpy, ev_comp, mkTup_ok, l_lens, l_len0, Nat.reduceLeDiff, Nat.reduceAdd, evs, evo, evi, bnd_ok, sbd_ok, pur_some, wpe_ok, wps_nx, wps_rt, b_add, b_sub, c_lt, c_le, c_gt, c_ge, c_eq, c_ne, c_in, c_nin, c_is, c_isnot, l_get0, l_gets, l_set0, l_sets, o_map, l_maps, l_map0, l_apps, l_app0, List.append_nil, hsp]) ?_))
  simp only [l_set0, l_sets]
  refine wps_seq (wps_ret (WPE.mk (a := .lst ((p.row k).map .int)) (s := s) (by simp only [ev_var, ev_cint, ev_cstr, ev_cbl, ev_cnon, ev_g, ev_bin, ev_neg, ev_not, ev_cmp, ev_chn, ev_chn3, ev_dst, ev_revT, ev_stp, ev_lix, ev_err, ev_srt, ev_wlk, ev_lgn, lstO_ok, ev_gf, ev_isl, ev_fld, ev_mth, ev_msp, ev_prp, ev_oln, ev_con0, ev_con1, ev_cmt, ev_oeq, ev_isp, ev_ccn, okO_ok, ev_cav, ev_cpm, ev_and, ev_or, ev_ite, ev_tup, ev_lst, ev_call, ev_bi, ev_isi, ev_idx, ev_slc, ev_rev, ev_lrng, ev_lrng1, ev_dnew, ev_cpy, ev_comp, mkTup_ok, l_lens, l_len0, Nat.reduceLeDiff, Nat.reduceAdd, evs, evo, evi, bnd_ok, sbd_ok, pur_some, wpe_ok, wps_nx, wps_rt, b_add, b_sub, c_lt, c_le, c_gt, c_ge, c_eq, c_ne, c_in, c_nin, c_is, c_isnot, l_get0, l_gets, l_set0, l_sets, o_map, l_maps, l_map0, l_apps, l_app0, List.append_nil, i2, if_pos hs, hc _ rfl, if_pos (row_size (by omega : p.n ≤ 10000))]) ?_))
  rw [er]
  exact WPE.mk (fin_pure (by simp only [noloc, ints_noloc])) ⟨rfl, rfl⟩
end
end EV

set_option maxHeartbeats 4000000
set_option pp.maxSteps 300
/-! k16: going back through words, rows word by word -/
namespace EV
open PySem PySem.Spec PyProof.Rows L2
theorem l_back_ok {n : Nat} {R i : Int} {ws : List Wd} {s : Sto} (hl : ws.length ≤ 20) : cal GG (n + 1) i_l_back [.tup (ws.map wD), .int R, .int i] s = some (.ok (.tup [.int (lenW ws R), .int (bk ws R i)]) s) := by
  refine WPE.eq (cal_wp Gi_l_back rfl ?_)
  show WPS (ex _ _ _ [some (.tup (ws.map wD)), some (.int R), some (.int i), none, none, none] s) _ _
  have hd2 : ∀ j, CDivN j 2 := fun j => ⟨by decide, by decide⟩
  have hm2 : ∀ j, CMul 2 j := fun j => cmul_l (by decide)
  refine wps_seq (wps_set ?_)
  simp only [ev_var, ev_cint, ev_cstr, ev_cbl, ev_cnon, ev_g, ev_bin, ev_neg, ev_not, ev_cmp, ev_chn, ev_chn3, ev_dst, ev_revT, ev_stp, ev_lix, ev_err, ev_srt, ev_wlk, ev_lgn, lstO_ok, ev_gf, ev_isl, ev_fld, ev_mth, ev_msp, ev_prp, ev_oln, ev_con0, ev_con1, ev_cmt, ev_oeq, ev_isp, ev_ccn, okO_ok, ev_cav, ev_cpm, ev_and, ev_or, ev_ite, ev_tup, ev_lst, ev_call, ev_bi, ev_isi, ev_idx, ev_slc, ev_rev, ev_lrng, ev_lrng1, ev_dnew, ev_cpy, ev_comp, mkTup_ok, l_lens, l_len0, Nat.reduceLeDiff, Nat.reduceAdd, evs, evo, evi, bnd_ok, sbd_ok, pur_some, wpe_ok, wps_nx, wps_rt, b_add, b_sub, c_lt, c_le, c_gt, c_ge, c_eq, c_ne, c_in, c_nin, c_is, c_isnot, l_get0, l_gets, l_set0, l_sets, o_map, l_maps, l_map0, l_apps, l_app0, List.append_nil, fresh_t' (show ([D.int R] : List D).length ≤ 1000 by simp)]
  refine wps_cut (fun ρ s1 => ∃ y1 y4, ρ = [some (.tup (ws.map wD)), some y1, some (.int i), some (.loc s.length), y4, none] ∧ s1 = s ++ [.lst ((szs ws R).map .int)]) (wps_forR (fun xs ρ s1 => ∃ (done rest : List Wd) (y1 : D) (y4 : Option D), ws = done ++ rest ∧ xs = rest.map wD ∧ ρ = [some (.tup (ws.map wD)), some y1, some (.int i), some (.loc s.length), y4, none] ∧ s1 = s ++ [.lst ((szs done R).map .int)]) ?_ ?_ ?_) ?_
  · refine WPE.mk (a := ws.map wD) (s := s ++ [.lst [.int R]]) (by simp only [ev_var, ev_cint, ev_cstr, ev_cbl, ev_cnon, ev_g, ev_bin, ev_neg, ev_not, ev_cmp, ev_chn, ev_chn3, ev_dst, ev_revT, ev_stp, ev_lix, ev_err, ev_srt, ev_wlk, ev_lgn, lstO_ok, ev_gf, ev_isl, ev_fld, ev_mth, ev_msp, ev_prp, ev_oln, ev_con0, ev_con1, ev_cmt, ev_oeq, ev_isp, ev_ccn, okO_ok, ev_cav, ev_cpm, ev_and, ev_or, ev_ite, ev_tup, ev_lst, ev_call, ev_bi, ev_isi, ev_idx, ev_slc, ev_rev, ev_lrng, ev_lrng1, ev_dnew, ev_cpy, ev_comp, mkTup_ok, l_lens, l_len0, Nat.reduceLeDiff, Nat.reduceAdd, evs, evo, evi, bnd_ok, sbd_ok, pur_some, wpe_ok, wps_nx, wps_rt, b_add, b_sub, c_lt, c_le, c_gt, c_ge, c_eq, c_ne, c_in, c_nin, c_is, c_isnot, l_get0, l_gets, l_set0, l_sets, o_map, l_maps, l_map0, l_apps, l_app0, List.append_nil]) ⟨[], ws, _, none, rfl, rfl, rfl, rfl⟩
  · rintro x xs ρ s1 ⟨done, rest, y1, y4, hw, e, rfl, rfl⟩
    cases rest with
    | nil => cases e
    | cons w rest =>
      rw [List.map_cons, List.cons.injEq] at e
      obtain ⟨rfl, rfl⟩ := e
      refine ⟨_, rfl, ?_⟩
      have hlen : ((szs done R).map D.int).length < sizeLine := by
        rw [List.length_map, szs_len]
        have : sizeLine = 16777216 := rfl
        have : ws.length = done.length + (rest.length + 1) := by rw [hw]; simp
        omega
      have happ : ∀ d, appD s.length (.loc s.length) d (s ++ [.lst ((szs done R).map D.int)]) = some (s ++ [.lst ((szs done R).map D.int ++ [d])]) := fun d => app_here (Nat.le_refl _) hlen
      refine wps_seq (wps_set ?_)
      simp only [ev_var, ev_cint, ev_cstr, ev_cbl, ev_cnon, ev_g, ev_bin, ev_neg, ev_not, ev_cmp, ev_chn, ev_chn3, ev_dst, ev_revT, ev_stp, ev_lix, ev_err, ev_srt, ev_wlk, ev_lgn, lstO_ok, ev_gf, ev_isl, ev_fld, ev_mth, ev_msp, ev_prp, ev_oln, ev_con0, ev_con1, ev_cmt, ev_oeq, ev_isp, ev_ccn, okO_ok, ev_cav, ev_cpm, ev_and, ev_or, ev_ite, ev_tup, ev_lst, ev_call, ev_bi, ev_isi, ev_idx, ev_slc, ev_rev, ev_lrng, ev_lrng1, ev_dnew, ev_cpy, ev_comp, mkTup_ok, l_lens, l_len0, Nat.reduceLeDiff, Nat.reduceAdd, evs, evo, evi, bnd_ok, sbd_ok, pur_some, wpe_ok, wps_nx, wps_rt, b_add, b_sub, c_lt, c_le, c_gt, c_ge, c_eq, c_ne, c_in, c_nin, c_is, c_isnot, l_get0, l_gets, l_set0, l_sets, o_map, l_maps, l_map0, l_apps, l_app0, List.append_nil, ix_here, szs_last]
      obtain ⟨a, ha⟩ : ∃ a, a = lenW done R := ⟨_, rfl⟩
      rw [← ha]
      refine wps_mid [some (.tup (ws.map wD)), some (.int (w.size a)), some (.int i), some (.loc s.length), some (wD w), none] (s ++ [.lst ((szs done R).map D.int)]) ?_ ?_
      · refine wps_if (b := decide (w = .odds ∨ w = .half)) (WPE.of_eq ?_) (fun z => ?_) fun z => ?_
        · simp only [ev_var, ev_cint, ev_cstr, ev_cbl, ev_cnon, ev_g, ev_bin, ev_neg, ev_not, ev_cmp, ev_chn, ev_chn3, ev_dst, ev_revT, ev_stp, ev_lix, ev_err, ev_srt, ev_wlk, ev_lgn, lstO_ok, ev_gf, ev_isl, ev_fld, ev_mth, ev_msp, ev_prp, ev_oln, ev_con0, ev_con1, ev_cmt, ev_oeq, ev_isp, ev_ccn, okO_ok, ev_cav, ev_cpm, ev_and, ev_or, ev_ite, ev_tup, ev_lst, ev_call, ev_bi, ev_isi, ev_idx, ev_slc, ev_rev, ev_lrng, ev_lrng1, ev_dnew, ev_cpy, ev_comp, mkTup_ok, l_lens, l_len0, Nat.reduceLeDiff, Nat.reduceAdd, evs, evo, evi, bnd_ok, sbd_ok, pur_some, wpe_ok, wps_nx, wps_rt, b_add, b_sub, c_lt, c_le, c_gt, c_ge, c_eq, c_ne, c_in, c_nin, c_is, c_isnot, l_get0, l_gets, l_set0, l_sets, o_map, l_maps, l_map0, l_apps, l_app0, List.append_nil, in_oh]
        · have z := of_decide_eq_true z
          refine wps_seq (wps_set ?_)
          simp only [ev_var, ev_cint, ev_cstr, ev_cbl, ev_cnon, ev_g, ev_bin, ev_neg, ev_not, ev_cmp, ev_chn, ev_chn3, ev_dst, ev_revT, ev_stp, ev_lix, ev_err, ev_srt, ev_wlk, ev_lgn, lstO_ok, ev_gf, ev_isl, ev_fld, ev_mth, ev_msp, ev_prp, ev_oln, ev_con0, ev_con1, ev_cmt, ev_oeq, ev_isp, ev_ccn, okO_ok, ev_cav, ev_cpm, ev_and, ev_or, ev_ite, ev_tup, ev_lst, ev_call, ev_bi, ev_isi, ev_idx, ev_slc, ev_rev, ev_lrng, ev_lrng1, ev_dnew, ev_cpy, ev_comp, mkTup_ok, l_lens, l_len0, Nat.reduceLeDiff, Nat.reduceAdd, evs, evo, evi, bnd_ok, sbd_ok, pur_some, wpe_ok, wps_nx, wps_rt, b_add, b_sub, c_lt, c_le, c_gt, c_ge, c_eq, c_ne, c_in, c_nin, c_is, c_isnot, l_get0, l_gets, l_set0, l_sets, o_map, l_maps, l_map0, l_apps, l_app0, List.append_nil, b_fdiv (hd2 _), fdiv_two]
          refine wps_skip ⟨?_, rfl⟩
          rcases z with rfl | rfl <;> rfl
        · have z := of_decide_eq_false z
          refine wps_seq (wps_if (b := decide (w = .evens ∨ w = .rest)) (WPE.of_eq ?_) (fun z2 => ?_) fun z2 => ?_)
          · simp only [ev_var, ev_cint, ev_cstr, ev_cbl, ev_cnon, ev_g, ev_bin, ev_neg, ev_not, ev_cmp, ev_chn, ev_chn3, ev_dst, ev_revT, ev_stp, ev_lix, ev_err, ev_srt, ev_wlk, ev_lgn, lstO_ok, ev_gf, ev_isl, ev_fld, ev_mth, ev_msp, ev_prp, ev_oln, ev_con0, ev_con1, ev_cmt, ev_oeq, ev_isp, ev_ccn, okO_ok, ev_cav, ev_cpm, ev_and, ev_or, ev_ite, ev_tup, ev_lst, ev_call, ev_bi, ev_isi, ev_idx, ev_slc, ev_rev, ev_lrng, ev_lrng1, ev_dnew, ev_cpy, ev_comp, mkTup_ok, l_lens, l_len0, Nat.reduceLeDiff, Nat.reduceAdd, evs, evo, evi, bnd_ok, sbd_ok, pur_some, wpe_ok, wps_nx, wps_rt, b_add, b_sub, c_lt, c_le, c_gt, c_ge, c_eq, c_ne, c_in, c_nin, c_is, c_isnot, l_get0, l_gets, l_set0, l_sets, o_map, l_maps, l_map0, l_apps, l_app0, List.append_nil, in_er]
          · have z2 := of_decide_eq_true z2
            refine wps_seq (wps_set ?_)
            simp only [ev_var, ev_cint, ev_cstr, ev_cbl, ev_cnon, ev_g, ev_bin, ev_neg, ev_not, ev_cmp, ev_chn, ev_chn3, ev_dst, ev_revT, ev_stp, ev_lix, ev_err, ev_srt, ev_wlk, ev_lgn, lstO_ok, ev_gf, ev_isl, ev_fld, ev_mth, ev_msp, ev_prp, ev_oln, ev_con0, ev_con1, ev_cmt, ev_oeq, ev_isp, ev_ccn, okO_ok, ev_cav, ev_cpm, ev_and, ev_or, ev_ite, ev_tup, ev_lst, ev_call, ev_bi, ev_isi, ev_idx, ev_slc, ev_rev, ev_lrng, ev_lrng1, ev_dnew, ev_cpy, ev_comp, mkTup_ok, l_lens, l_len0, Nat.reduceLeDiff, Nat.reduceAdd, evs, evo, evi, bnd_ok, sbd_ok, pur_some, wpe_ok, wps_nx, wps_rt, b_add, b_sub, c_lt, c_le, c_gt, c_ge, c_eq, c_ne, c_in, c_nin, c_is, c_isnot, l_get0, l_gets, l_set0, l_sets, o_map, l_maps, l_map0, l_apps, l_app0, List.append_nil, b_fdiv (hd2 _), fdiv_two]
            refine wps_skip (wps_skip ⟨?_, rfl⟩)
            rcases z2 with rfl | rfl <;> rfl
          · have z2 := of_decide_eq_false z2
            refine wps_seq (wps_if (b := !decide (w = .turn)) (WPE.of_eq ?_) (fun z3 => ?_) fun z3 => ?_)
            · simp only [ev_var, ev_cint, ev_cstr, ev_cbl, ev_cnon, ev_g, ev_bin, ev_neg, ev_not, ev_cmp, ev_chn, ev_chn3, ev_dst, ev_revT, ev_stp, ev_lix, ev_err, ev_srt, ev_wlk, ev_lgn, lstO_ok, ev_gf, ev_isl, ev_fld, ev_mth, ev_msp, ev_prp, ev_oln, ev_con0, ev_con1, ev_cmt, ev_oeq, ev_isp, ev_ccn, okO_ok, ev_cav, ev_cpm, ev_and, ev_or, ev_ite, ev_tup, ev_lst, ev_call, ev_bi, ev_isi, ev_idx, ev_slc, ev_rev, ev_lrng, ev_lrng1, ev_dnew, ev_cpy, ev_comp, mkTup_ok, l_lens, l_len0, Nat.reduceLeDiff, Nat.reduceAdd, evs, evo, evi, bnd_ok, sbd_ok, pur_some, wpe_ok, wps_nx, wps_rt, b_add, b_sub, c_lt, c_le, c_gt, c_ge, c_eq, c_ne, c_in, c_nin, c_is, c_isnot, l_get0, l_gets, l_set0, l_sets, o_map, l_maps, l_map0, l_apps, l_app0, List.append_nil, q_turn]
            · refine wps_seq (wps_set ?_)
              simp only [ev_var, ev_cint, ev_cstr, ev_cbl, ev_cnon, ev_g, ev_bin, ev_neg, ev_not, ev_cmp, ev_chn, ev_chn3, ev_dst, ev_revT, ev_stp, ev_lix, ev_err, ev_srt, ev_wlk, ev_lgn, lstO_ok, ev_gf, ev_isl, ev_fld, ev_mth, ev_msp, ev_prp, ev_oln, ev_con0, ev_con1, ev_cmt, ev_oeq, ev_isp, ev_ccn, okO_ok, ev_cav, ev_cpm, ev_and, ev_or, ev_ite, ev_tup, ev_lst, ev_call, ev_bi, ev_isi, ev_idx, ev_slc, ev_rev, ev_lrng, ev_lrng1, ev_dnew, ev_cpy, ev_comp, mkTup_ok, l_lens, l_len0, Nat.reduceLeDiff, Nat.reduceAdd, evs, evo, evi, bnd_ok, sbd_ok, pur_some, wpe_ok, wps_nx, wps_rt, b_add, b_sub, c_lt, c_le, c_gt, c_ge, c_eq, c_ne, c_in, c_nin, c_is, c_isnot, l_get0, l_gets, l_set0, l_sets, o_map, l_maps, l_map0, l_apps, l_app0, List.append_nil, biD, bi2, max2]
              refine wps_skip (wps_skip (wps_skip ⟨?_, rfl⟩))
              cases w with
              | cut => rfl
              | skip => rfl
              | turn => cases z3
              | odds => exact absurd (.inl rfl) z
              | half => exact absurd (.inr rfl) z
              | evens => exact absurd (.inl rfl) z2
              | rest => exact absurd (.inr rfl) z2
            · refine wps_skip (wps_skip (wps_skip ⟨?_, rfl⟩))
              have z3 : w = .turn := by simpa using z3
              subst z3
              rfl
      refine wps_seq (wps_app ?_)
      simp only [ev_var, ev_cint, ev_cstr, ev_cbl, ev_cnon, ev_g, ev_bin, ev_neg, ev_not, ev_cmp, ev_chn, ev_chn3, ev_dst, ev_revT, ev_stp, ev_lix, ev_err, ev_srt, ev_wlk, ev_lgn, lstO_ok, ev_gf, ev_isl, ev_fld, ev_mth, ev_msp, ev_prp, ev_oln, ev_con0, ev_con1, ev_cmt, ev_oeq, ev_isp, ev_ccn, okO_ok, ev_cav, ev_cpm, ev_and, ev_or, ev_ite, ev_tup, ev_lst, ev_call, ev_bi, ev_isi, ev_idx, ev_slc, ev_rev, ev_lrng, ev_lrng1, ev_dnew, ev_cpy, ev_comp, mkTup_ok, l_lens, l_len0, Nat.reduceLeDiff, Nat.reduceAdd, evs, evo, evi, bnd_ok, sbd_ok, pur_some, wpe_ok, wps_nx, wps_rt, b_add, b_sub, c_lt, c_le, c_gt, c_ge, c_eq, c_ne, c_in, c_nin, c_is, c_isnot, l_get0, l_gets, l_set0, l_sets, o_map, l_maps, l_map0, l_apps, l_app0, List.append_nil, isLst_here, true_and]
      refine ⟨_, happ _, wps_skip ⟨done ++ [w], rest, _, _, by rw [hw]; simp, rfl, rfl, ?_⟩⟩
      rw [szs_snoc, List.map_append, ← ha]
      rfl
  · rintro ρ s1 ⟨done, rest, y1, y4, hw, e, rfl, rfl⟩
    have e : rest = [] := by simpa using e.symm
    subst e
    rw [List.append_nil] at hw
    subst hw
    exact ⟨y1, y4, rfl, rfl⟩
  · rintro ρ s1 ⟨y1, y4, rfl, rfl⟩
    obtain ⟨s1, hs1⟩ : ∃ s1, s1 = s ++ [.lst ((szs ws R).map .int)] := ⟨_, rfl⟩
    have ix1 : ∀ k, idxD s1 (.loc s.length) (.int k) = atI ((szs ws R).map .int) k := fun k => by rw [hs1, ix_here]
    rw [← hs1]
    refine wps_seq (wps_for (rngC ((ws.length : Int) - 1) (-1) ws.length) (fun t ρ s2 => ∃ y1 y4 y5, ρ = [some (.tup (ws.map wD)), y1, some (.int (bk (ws.drop (ws.length - t)) (lenW (ws.take (ws.length - t)) R) i)), some (.loc s.length), y4, y5] ∧ s2 = s1 ∧ t ≤ ws.length) ?_ ?_ ?_)
    · refine WPE.mk (a := rngC ((ws.length : Int) - 1) (-1) ws.length) (s := s1) ?_ ⟨rfl, some y1, y4, none, ?_, rfl, Nat.zero_le _⟩
      · have h62 : small62 ((ws.length : Int) - 1) ∧ small62 (-1) ∧ True := ⟨⟨by omega, by omega⟩, ⟨by decide, by decide⟩, trivial⟩
        have et : ((ws.length : Int) - 1 - -1).toNat = ws.length := by omega
        simp only [ev_var, ev_cint, ev_cstr, ev_cbl, ev_cnon, ev_g, ev_bin, ev_neg, ev_not, ev_cmp, ev_chn, ev_chn3, ev_dst, ev_revT, ev_stp, ev_lix, ev_err, ev_srt, ev_wlk, ev_lgn, lstO_ok, ev_gf, ev_isl, ev_fld, ev_mth, ev_msp, ev_prp, ev_oln, ev_con0, ev_con1, ev_cmt, ev_oeq, ev_isp, ev_ccn, okO_ok, ev_cav, ev_cpm, ev_and, ev_or, ev_ite, ev_tup, ev_lst, ev_call, ev_bi, ev_isi, ev_idx, ev_slc, ev_rev, ev_lrng, ev_lrng1, ev_dnew, ev_cpy, ev_comp, mkTup_ok, l_lens, l_len0, Nat.reduceLeDiff, Nat.reduceAdd, evs, evo, evi, bnd_ok, sbd_ok, pur_some, wpe_ok, wps_nx, wps_rt, b_add, b_sub, c_lt, c_le, c_gt, c_ge, c_eq, c_ne, c_in, c_nin, c_is, c_isnot, l_get0, l_gets, l_set0, l_sets, o_map, l_maps, l_map0, l_apps, l_app0, List.append_nil, biD, len_tup, List.length_map, if_pos h62, et]
      · rw [Nat.sub_zero, List.drop_length]
        rfl
    · rintro t x ρ s2 hx ⟨y1, y4, y5, rfl, rfl, ht⟩
      unfold rngC at hx
      rw [List.getElem?_map] at hx
      obtain ⟨t', ht', rfl⟩ := Option.map_eq_some_iff.mp hx
      obtain ⟨hlt, het⟩ := List.getElem?_eq_some_iff.mp ht'
      rw [List.getElem_range] at het
      subst het
      rw [List.length_range] at hlt
      refine ⟨_, rfl, ?_⟩
      obtain ⟨j, hj⟩ : ∃ j, ws.length - t = j + 1 := ⟨ws.length - t - 1, by omega⟩
      have hj2 : ws.length - (t + 1) = j := by omega
      have hjl : j < ws.length := by omega
      have ej : (ws.length : Int) - 1 + (t : Int) * -1 = (j : Nat) := by omega
      rw [hj, hj2, ej]
      obtain ⟨w, hw⟩ : ∃ w, w = ws[j] := ⟨_, rfl⟩
      have e1 : ws.drop j = w :: ws.drop (j + 1) := by rw [hw]; exact List.drop_eq_getElem_cons hjl
      have e2 : lenW (ws.take (j + 1)) R = w.size (lenW (ws.take j) R) := by
        rw [List.take_succ, List.getElem?_eq_getElem hjl, ← hw]
        exact lenW_snoc _ _ _
      rw [e1, e2]
      have a1 : ∀ s, idxD s (.tup (ws.map wD)) (.int (j : Nat)) = some (wD w) := fun s => by
        rw [ix_tup, atI_nat' (by omega) (by rw [List.length_map]; omega), Int.toNat_natCast, List.getElem?_map, List.getElem?_eq_getElem hjl, ← hw]
        rfl
      have a2 : idxD s2 (.loc s.length) (.int (j : Nat)) = some (.int (lenW (ws.take j) R)) := by
        rw [ix1, atI_nat' (by omega) (by rw [List.length_map, szs_len]; omega), Int.toNat_natCast, List.getElem?_map, szs_get (by omega)]
        rfl
      obtain ⟨a, ha⟩ : ∃ a, a = lenW (ws.take j) R := ⟨_, rfl⟩
      obtain ⟨b, hb⟩ : ∃ b, b = bk (ws.drop (j + 1)) (w.size a) i := ⟨_, rfl⟩
      rw [← ha] at a2 ⊢
      rw [← hb]
      refine wps_seq (wps_par ?_)
      simp only [ev_var, ev_cint, ev_cstr, ev_cbl, ev_cnon, ev_g, ev_bin, ev_neg, ev_not, ev_cmp, ev_chn, ev_chn3, ev_dst, ev_revT, ev_stp, ev_lix, ev_err, ev_srt, ev_wlk, ev_lgn, lstO_ok, ev_gf, ev_isl, ev_fld, ev_mth, ev_msp, ev_prp, ev_oln, ev_con0, ev_con1, ev_cmt, ev_oeq, ev_isp, ev_ccn, okO_ok, ev_cav, ev_cpm, ev_and, ev_or, ev_ite, ev_tup, ev_lst, ev_call, ev_bi, ev_isi, ev_idx, ev_slc, ev_rev, ev_lrng, ev_lrng1, ev_dnew, ev_cpy, ev_comp, mkTup_ok, l_lens, l_len0, Nat.reduceLeDiff, Nat.reduceAdd, evs, evo, evi, bnd_ok, sbd_ok, pur_some, wpe_ok, wps_nx, wps_rt, b_add, b_sub, c_lt, c_le, c_gt, c_ge, c_eq, c_ne, c_in, c_nin, c_is, c_isnot, l_get0, l_gets, l_set0, l_sets, o_map, l_maps, l_map0, l_apps, l_app0, List.append_nil, a1, a2]
      refine ⟨_, rfl, ?_⟩
      simp only [ev_var, ev_cint, ev_cstr, ev_cbl, ev_cnon, ev_g, ev_bin, ev_neg, ev_not, ev_cmp, ev_chn, ev_chn3, ev_dst, ev_revT, ev_stp, ev_lix, ev_err, ev_srt, ev_wlk, ev_lgn, lstO_ok, ev_gf, ev_isl, ev_fld, ev_mth, ev_msp, ev_prp, ev_oln, ev_con0, ev_con1, ev_cmt, ev_oeq, ev_isp, ev_ccn, okO_ok, ev_cav, ev_cpm, ev_and, ev_or, ev_ite, ev_tup, ev_lst, ev_call, ev_bi, ev_isi, ev_idx, ev_slc, ev_rev, ev_lrng, ev_lrng1, ev_dnew, ev_cpy, ev_comp, mkTup_ok, l_lens, l_len0, Nat.reduceLeDiff, Nat.reduceAdd, evs, evo, evi, bnd_ok, sbd_ok, pur_some, wpe_ok, wps_nx, wps_rt, b_add, b_sub, c_lt, c_le, c_gt, c_ge, c_eq, c_ne, c_in, c_nin, c_is, c_isnot, l_get0, l_gets, l_set0, l_sets, o_map, l_maps, l_map0, l_apps, l_app0, List.append_nil]
      have fin : ∀ c, c = w.from a b → [some (.tup (ws.map wD)), some (.int a), some (.int c), some (.loc s.length), some (wD w), some (.int (j : Nat))] = [some (.tup (ws.map wD)), some (.int a), some (D.int (bk (w :: ws.drop (j + 1)) a i)), some (.loc s.length), some (wD w), some (.int (j : Nat))] := fun c hc => by
        rw [hc, hb]
        rfl
      refine wps_seq (wps_if (b := decide (w = .turn)) (WPE.of_eq ?_) (fun z => ?_) fun z => ?_)
      · simp only [ev_var, ev_cint, ev_cstr, ev_cbl, ev_cnon, ev_g, ev_bin, ev_neg, ev_not, ev_cmp, ev_chn, ev_chn3, ev_dst, ev_revT, ev_stp, ev_lix, ev_err, ev_srt, ev_wlk, ev_lgn, lstO_ok, ev_gf, ev_isl, ev_fld, ev_mth, ev_msp, ev_prp, ev_oln, ev_con0, ev_con1, ev_cmt, ev_oeq, ev_isp, ev_ccn, okO_ok, ev_cav, ev_cpm, ev_and, ev_or, ev_ite, ev_tup, ev_lst, ev_call, ev_bi, ev_isi, ev_idx, ev_slc, ev_rev, ev_lrng, ev_lrng1, ev_dnew, ev_cpy, ev_comp, mkTup_ok, l_lens, l_len0, Nat.reduceLeDiff, Nat.reduceAdd, evs, evo, evi, bnd_ok, sbd_ok, pur_some, wpe_ok, wps_nx, wps_rt, b_add, b_sub, c_lt, c_le, c_gt, c_ge, c_eq, c_ne, c_in, c_nin, c_is, c_isnot, l_get0, l_gets, l_set0, l_sets, o_map, l_maps, l_map0, l_apps, l_app0, List.append_nil, q_turn]
      · have z := of_decide_eq_true z
        refine wps_seq (wps_set ?_)
        simp only [ev_var, ev_cint, ev_cstr, ev_cbl, ev_cnon, ev_g, ev_bin, ev_neg, ev_not, ev_cmp, ev_chn, ev_chn3, ev_dst, ev_revT, ev_stp, ev_lix, ev_err, ev_srt, ev_wlk, ev_lgn, lstO_ok, ev_gf, ev_isl, ev_fld, ev_mth, ev_msp, ev_prp, ev_oln, ev_con0, ev_con1, ev_cmt, ev_oeq, ev_isp, ev_ccn, okO_ok, ev_cav, ev_cpm, ev_and, ev_or, ev_ite, ev_tup, ev_lst, ev_call, ev_bi, ev_isi, ev_idx, ev_slc, ev_rev, ev_lrng, ev_lrng1, ev_dnew, ev_cpy, ev_comp, mkTup_ok, l_lens, l_len0, Nat.reduceLeDiff, Nat.reduceAdd, evs, evo, evi, bnd_ok, sbd_ok, pur_some, wpe_ok, wps_nx, wps_rt, b_add, b_sub, c_lt, c_le, c_gt, c_ge, c_eq, c_ne, c_in, c_nin, c_is, c_isnot, l_get0, l_gets, l_set0, l_sets, o_map, l_maps, l_map0, l_apps, l_app0, List.append_nil]
        refine wps_skip (wps_skip ⟨_, _, _, fin _ ?_, rfl, by omega⟩)
        rw [z]
        rfl
      · have z := of_decide_eq_false z
        refine wps_seq (wps_if (b := decide (w = .odds ∨ w = .evens)) (WPE.of_eq ?_) (fun z2 => ?_) fun z2 => ?_)
        · simp only [ev_var, ev_cint, ev_cstr, ev_cbl, ev_cnon, ev_g, ev_bin, ev_neg, ev_not, ev_cmp, ev_chn, ev_chn3, ev_dst, ev_revT, ev_stp, ev_lix, ev_err, ev_srt, ev_wlk, ev_lgn, lstO_ok, ev_gf, ev_isl, ev_fld, ev_mth, ev_msp, ev_prp, ev_oln, ev_con0, ev_con1, ev_cmt, ev_oeq, ev_isp, ev_ccn, okO_ok, ev_cav, ev_cpm, ev_and, ev_or, ev_ite, ev_tup, ev_lst, ev_call, ev_bi, ev_isi, ev_idx, ev_slc, ev_rev, ev_lrng, ev_lrng1, ev_dnew, ev_cpy, ev_comp, mkTup_ok, l_lens, l_len0, Nat.reduceLeDiff, Nat.reduceAdd, evs, evo, evi, bnd_ok, sbd_ok, pur_some, wpe_ok, wps_nx, wps_rt, b_add, b_sub, c_lt, c_le, c_gt, c_ge, c_eq, c_ne, c_in, c_nin, c_is, c_isnot, l_get0, l_gets, l_set0, l_sets, o_map, l_maps, l_map0, l_apps, l_app0, List.append_nil, in_oe]
        · have z2 := of_decide_eq_true z2
          refine wps_seq (wps_set ?_)
          simp only [ev_var, ev_cint, ev_cstr, ev_cbl, ev_cnon, ev_g, ev_bin, ev_neg, ev_not, ev_cmp, ev_chn, ev_chn3, ev_dst, ev_revT, ev_stp, ev_lix, ev_err, ev_srt, ev_wlk, ev_lgn, lstO_ok, ev_gf, ev_isl, ev_fld, ev_mth, ev_msp, ev_prp, ev_oln, ev_con0, ev_con1, ev_cmt, ev_oeq, ev_isp, ev_ccn, okO_ok, ev_cav, ev_cpm, ev_and, ev_or, ev_ite, ev_tup, ev_lst, ev_call, ev_bi, ev_isi, ev_idx, ev_slc, ev_rev, ev_lrng, ev_lrng1, ev_dnew, ev_cpy, ev_comp, mkTup_ok, l_lens, l_len0, Nat.reduceLeDiff, Nat.reduceAdd, evs, evo, evi, bnd_ok, sbd_ok, pur_some, wpe_ok, wps_nx, wps_rt, b_add, b_sub, c_lt, c_le, c_gt, c_ge, c_eq, c_ne, c_in, c_nin, c_is, c_isnot, l_get0, l_gets, l_set0, l_sets, o_map, l_maps, l_map0, l_apps, l_app0, List.append_nil, b_mul (hm2 _), q_evens, biD, bi1, intD]
          refine wps_skip (wps_skip (wps_skip ⟨_, _, _, fin _ ?_, rfl, by omega⟩))
          rcases z2 with rfl | rfl
          · show 2 * b + (if decide (Wd.odds = Wd.evens) = true then (1 : Int) else 0) = 2 * b
            rw [if_neg (by decide)]
            omega
          · show 2 * b + (if decide (Wd.evens = Wd.evens) = true then (1 : Int) else 0) = 2 * b + 1
            rw [if_pos (by decide)]
        · have z2 := of_decide_eq_false z2
          refine wps_seq (wps_if (b := decide (w = .rest ∨ w = .skip)) (WPE.of_eq ?_) (fun z3 => ?_) fun z3 => ?_)
          · simp only [ev_var, ev_cint, ev_cstr, ev_cbl, ev_cnon, ev_g, ev_bin, ev_neg, ev_not, ev_cmp, ev_chn, ev_chn3, ev_dst, ev_revT, ev_stp, ev_lix, ev_err, ev_srt, ev_wlk, ev_lgn, lstO_ok, ev_gf, ev_isl, ev_fld, ev_mth, ev_msp, ev_prp, ev_oln, ev_con0, ev_con1, ev_cmt, ev_oeq, ev_isp, ev_ccn, okO_ok, ev_cav, ev_cpm, ev_and, ev_or, ev_ite, ev_tup, ev_lst, ev_call, ev_bi, ev_isi, ev_idx, ev_slc, ev_rev, ev_lrng, ev_lrng1, ev_dnew, ev_cpy, ev_comp, mkTup_ok, l_lens, l_len0, Nat.reduceLeDiff, Nat.reduceAdd, evs, evo, evi, bnd_ok, sbd_ok, pur_some, wpe_ok, wps_nx, wps_rt, b_add, b_sub, c_lt, c_le, c_gt, c_ge, c_eq, c_ne, c_in, c_nin, c_is, c_isnot, l_get0, l_gets, l_set0, l_sets, o_map, l_maps, l_map0, l_apps, l_app0, List.append_nil, in_rs]
          · have z3 := of_decide_eq_true z3
            refine wps_seq (wps_set ?_)
            rcases z3 with rfl | rfl
            · simp only [ev_var, ev_cint, ev_cstr, ev_cbl, ev_cnon, ev_g, ev_bin, ev_neg, ev_not, ev_cmp, ev_chn, ev_chn3, ev_dst, ev_revT, ev_stp, ev_lix, ev_err, ev_srt, ev_wlk, ev_lgn, lstO_ok, ev_gf, ev_isl, ev_fld, ev_mth, ev_msp, ev_prp, ev_oln, ev_con0, ev_con1, ev_cmt, ev_oeq, ev_isp, ev_ccn, okO_ok, ev_cav, ev_cpm, ev_and, ev_or, ev_ite, ev_tup, ev_lst, ev_call, ev_bi, ev_isi, ev_idx, ev_slc, ev_rev, ev_lrng, ev_lrng1, ev_dnew, ev_cpy, ev_comp, mkTup_ok, l_lens, l_len0, Nat.reduceLeDiff, Nat.reduceAdd, evs, evo, evi, bnd_ok, sbd_ok, pur_some, wpe_ok, wps_nx, wps_rt, b_add, b_sub, c_lt, c_le, c_gt, c_ge, c_eq, c_ne, c_in, c_nin, c_is, c_isnot, l_get0, l_gets, l_set0, l_sets, o_map, l_maps, l_map0, l_apps, l_app0, List.append_nil, q_rest, decide_true, b_fdiv (hd2 _), fdiv_two]
              refine wps_skip (wps_skip (wps_skip (wps_skip ⟨_, _, _, fin _ ?_, rfl, by omega⟩)))
              show b + (a + 1) / 2 = (a + 1) / 2 + b
              omega
            · have q : decide (Wd.skip = Wd.rest) = false := by decide
              simp only [ev_var, ev_cint, ev_cstr, ev_cbl, ev_cnon, ev_g, ev_bin, ev_neg, ev_not, ev_cmp, ev_chn, ev_chn3, ev_dst, ev_revT, ev_stp, ev_lix, ev_err, ev_srt, ev_wlk, ev_lgn, lstO_ok, ev_gf, ev_isl, ev_fld, ev_mth, ev_msp, ev_prp, ev_oln, ev_con0, ev_con1, ev_cmt, ev_oeq, ev_isp, ev_ccn, okO_ok, ev_cav, ev_cpm, ev_and, ev_or, ev_ite, ev_tup, ev_lst, ev_call, ev_bi, ev_isi, ev_idx, ev_slc, ev_rev, ev_lrng, ev_lrng1, ev_dnew, ev_cpy, ev_comp, mkTup_ok, l_lens, l_len0, Nat.reduceLeDiff, Nat.reduceAdd, evs, evo, evi, bnd_ok, sbd_ok, pur_some, wpe_ok, wps_nx, wps_rt, b_add, b_sub, c_lt, c_le, c_gt, c_ge, c_eq, c_ne, c_in, c_nin, c_is, c_isnot, l_get0, l_gets, l_set0, l_sets, o_map, l_maps, l_map0, l_apps, l_app0, List.append_nil, q_rest, q]
              exact wps_skip (wps_skip (wps_skip (wps_skip ⟨_, _, _, fin _ rfl, rfl, by omega⟩)))
          · have z3 := of_decide_eq_false z3
            refine wps_skip (wps_skip (wps_skip (wps_skip ⟨_, _, _, fin _ ?_, rfl, by omega⟩)))
            cases w with
            | cut => rfl
            | half => rfl
            | turn => exact absurd rfl z
            | odds => exact absurd (.inl rfl) z2
            | evens => exact absurd (.inr rfl) z2
            | rest => exact absurd (.inl rfl) z3
            | skip => exact absurd (.inr rfl) z3
    · rintro ρ s2 ⟨y1, y4, y5, rfl, rfl, _⟩
      have hlen : (rngC ((ws.length : Int) - 1) (-1) ws.length).length = ws.length := by simp [rngC]
      rw [hlen, Nat.sub_self]
      have e : bk (ws.drop 0) (lenW (ws.take 0) R) i = bk ws R i := rfl
      rw [e]
      refine wps_seq (wps_ret ?_)
      simp only [ev_var, ev_cint, ev_cstr, ev_cbl, ev_cnon, ev_g, ev_bin, ev_neg, ev_not, ev_cmp, ev_chn, ev_chn3, ev_dst, ev_revT, ev_stp, ev_lix, ev_err, ev_srt, ev_wlk, ev_lgn, lstO_ok, ev_gf, ev_isl, ev_fld, ev_mth, ev_msp, ev_prp, ev_oln, ev_con0, ev_con1, ev_cmt, ev_oeq, ev_isp, ev_ccn, okO_ok, ev_cav, ev_cpm, ev_and, ev_or, ev_ite, ev_tup, ev_lst, ev_call, ev_bi, ev_isi, ev_idx, ev_slc, ev_rev, ev_lrng, ev_lrng1, ev_dnew, ev_cpy, ev_comp, mkTup_ok, l_lens, l_len0, Nat.reduceLeDiff, Nat.reduceAdd, evs, evo, evi, bnd_ok, sbd_ok, pur_some, wpe_ok, wps_nx, wps_rt, b_add, b_sub, c_lt, c_le, c_gt, c_ge, c_eq, c_ne, c_in, c_nin, c_is, c_isnot, l_get0, l_gets, l_set0, l_sets, o_map, l_maps, l_map0, l_apps, l_app0, List.append_nil, ix1, szs_last]
      exact WPE.mk (fin_keep rfl (by rw [hs1]; simp)) ⟨rfl, rfl⟩
theorem cutL_len {xs : List Int} {w : Wd} : ((cutL w xs).length : Int) = w.size xs.length := by
  cases w <;> simp only [cutL, Wd.size, List.length_reverse, evL_len, List.length_drop, List.length_take] <;> omega
theorem row_cut {P : Sp} (h : 0 ≤ P.n) (k : Int) (w : Wd) : cutL w (P.row k) = (P.after w).row k := by
  have hl : ((P.row k).length : Int) = P.n := by
    rw [Sp.row, List.length_map, List.length_range]
    omega
  refine List.ext_getElem? fun j => ?_
  by_cases q : (j : Int) < w.size P.n
  · rw [cutL_get (by rw [hl]; exact q), hl]
    obtain ⟨a, b⟩ := from_in w (Int.natCast_nonneg j) q
    unfold Sp.row
    rw [List.getElem?_map, List.getElem?_map, List.getElem?_range (by omega), List.getElem?_range (by rw [after_n]; omega)]
    show some (P.item k ((w.from P.n j).toNat : Nat)) = some ((P.after w).item k (j : Nat))
    rw [after_item P w k (Int.natCast_nonneg j) q, Int.toNat_of_nonneg a]
  · have e1 := cutL_len (xs := P.row k) (w := w)
    rw [hl] at e1
    rw [List.getElem?_eq_none (by omega), List.getElem?_eq_none]
    rw [Sp.row, List.length_map, List.length_range, after_n]
    omega
theorem spanOf_app (m : Int) (ws more : List Wd) (k : Int) : spanOf m (ws ++ more) k = more.foldl Sp.after (spanOf m ws k) := by
  unfold spanOf
  rw [List.foldl_append]
theorem rowOf_cut {m k : Int} {ws : List Wd} {w : Wd} (hm : 0 < m) (h0 : 0 ≤ k) : cutL w (rowOf m ws k) = rowOf m (ws ++ [w]) k := by
  rw [rowOf, rowOf, spanOf_snoc]
  exact row_cut (spanOf_ok (ws := ws) hm h0).1.n0 k w
theorem Bags.same {k : Nat} {s s' : Sto} (h : Bags k s) (e : ∀ q, q < k → s'[q]? = s[q]?) : Bags k s' := fun p hp => by
  obtain ⟨ds, i, h1, h2⟩ := h p hp
  exact ⟨ds, i, h1, by rw [e p hp]; exact h2⟩
theorem tups_niceI (xs : List Int) : nice 1 (.tup (xs.map .int)) = true := by
  have : nices 0 (xs.map .int) = true := by
    induction xs with
    | nil => rfl
    | cons x r ih => simp [nices, nice, ih]
  exact this
theorem lis_nice (xs : List Int) : nice 1 (.lst (xs.map .int)) = true := nice_ints _
theorem wds_nice (ws : List Wd) : nice 1 (.tup (ws.map wD)) = true := by
  have : nices 0 (ws.map wD) = true := by
    induction ws with
    | nil => rfl
    | cons x r ih =>
      rw [List.map_cons]
      show (nice 0 (wD x) && nices 0 (r.map wD)) = true
      rw [wD_nice, ih]
      rfl
  exact this
end EV

set_option maxHeartbeats 8000000
set_option pp.maxSteps 300
/-! k16 -/
namespace EV
open PySem PySem.Spec PyProof.Rows L2
theorem tail_ok (CT : CTb) (p1 : ∀ s, CT i_row [.tup [.int 1, .tup [.str "odds", .str "turn", .str "rest"]], .int 9] s = some (.ok (.lst [.int 3, .int 1]) s)) (p2 : ∀ s, CT i_page_at [.tup [.int 1, .tup [.str "evens", .str "turn"]], .int 1000000, .int 1] s = some (.ok (.int 999998) s)) (ρ : Env) (s : Sto) :
    WPS (ex CT 0 ((S.ifs (.cmp .ne (.call i_row (.cons (.tup (.cons (.cint 1) (.cons (.tup (.cons (.cstr "odds") (.cons (.cstr "turn") (.cons (.cstr "rest") .nil)))) .nil))) (.cons (.cint 9) .nil))) (.lst false (.cons (.cint 3) (.cons (.cint 1) .nil)))) (.seq (.ret (.cbl false)) .skip) .skip).seq (.seq (.ret (.cmp .eq (.call i_page_at (.cons (.tup (.cons (.cint 1) (.cons (.tup (.cons (.cstr "evens") (.cons (.cstr "turn") .nil))) .nil))) (.cons (.bin .pow (.cint 10) (.cint 6)) (.cons (.cint 1) .nil)))) (.cint 999998))) .skip)) ρ s) (fun _ _ => False) (fun r s1 => r = .bl true) := by
  have hpw : CPow 10 6 := ⟨by decide, by decide, by decide⟩
  have e6 : (10 : Int) ^ (6 : Int).toNat = 1000000 := by decide
  refine wps_seq (wps_if (b := false) (WPE.of_eq ?_) (fun z => absurd z (by decide)) fun _ => ?_)
  · simp only [ev_var, ev_cint, ev_cstr, ev_cbl, ev_cnon, ev_g, ev_bin, ev_neg, ev_not, ev_cmp, ev_chn, ev_chn3, ev_dst, ev_revT, ev_stp, ev_lix, ev_err, ev_srt, ev_wlk, ev_lgn, lstO_ok, ev_gf, ev_isl, ev_fld, ev_mth, ev_msp, ev_prp, ev_oln, ev_con0, ev_con1, ev_cmt, ev_oeq, ev_isp, ev_ccn, okO_ok, ev_cav, ev_cpm, ev_and, ev_or, ev_ite, ev_tup, ev_lst, ev_call, ev_bi, ev_isi, ev_idx, ev_slc, ev_rev, ev_lrng, ev_lrng1, ev_dnew, ev_cpy, ev_comp, mkTup_ok, l_lens, l_len0, Nat.reduceLeDiff, Nat.reduceAdd, evs, evo, evi, bnd_ok, sbd_ok, pur_some, wpe_ok, wps_nx, wps_rt, b_add, b_sub, c_lt, c_le, c_gt, c_ge, c_eq, c_ne, c_in, c_nin, c_is, c_isnot, l_get0, l_gets, l_set0, l_sets, o_map, l_maps, l_map0, l_apps, l_app0, List.append_nil, if_true, le_size, fresh_f', mkTup_ok, p1]
    rw [eq_nice (k := 1) (j := 1) rfl rfl]
    simp only [ev_var, ev_cint, ev_cstr, ev_cbl, ev_cnon, ev_g, ev_bin, ev_neg, ev_not, ev_cmp, ev_chn, ev_chn3, ev_dst, ev_revT, ev_stp, ev_lix, ev_err, ev_srt, ev_wlk, ev_lgn, lstO_ok, ev_gf, ev_isl, ev_fld, ev_mth, ev_msp, ev_prp, ev_oln, ev_con0, ev_con1, ev_cmt, ev_oeq, ev_isp, ev_ccn, okO_ok, ev_cav, ev_cpm, ev_and, ev_or, ev_ite, ev_tup, ev_lst, ev_call, ev_bi, ev_isi, ev_idx, ev_slc, ev_rev, ev_lrng, ev_lrng1, ev_dnew, ev_cpy, ev_comp, mkTup_ok, l_lens, l_len0, Nat.reduceLeDiff, Nat.reduceAdd, evs, evo, evi, bnd_ok, sbd_ok, pur_some, wpe_ok, wps_nx, wps_rt, b_add, b_sub, c_lt, c_le, c_gt, c_ge, c_eq, c_ne, c_in, c_nin, c_is, c_isnot, l_get0, l_gets, l_set0, l_sets, o_map, l_maps, l_map0, l_apps, l_app0, List.append_nil, if_true, le_size, fresh_f', decide_true, Bool.not_true]
  refine wps_skip (wps_seq (wps_ret ?_))
  simp only [ev_var, ev_cint, ev_cstr, ev_cbl, ev_cnon, ev_g, ev_bin, ev_neg, ev_not, ev_cmp, ev_chn, ev_chn3, ev_dst, ev_revT, ev_stp, ev_lix, ev_err, ev_srt, ev_wlk, ev_lgn, lstO_ok, ev_gf, ev_isl, ev_fld, ev_mth, ev_msp, ev_prp, ev_oln, ev_con0, ev_con1, ev_cmt, ev_oeq, ev_isp, ev_ccn, okO_ok, ev_cav, ev_cpm, ev_and, ev_or, ev_ite, ev_tup, ev_lst, ev_call, ev_bi, ev_isi, ev_idx, ev_slc, ev_rev, ev_lrng, ev_lrng1, ev_dnew, ev_cpy, ev_comp, mkTup_ok, l_lens, l_len0, Nat.reduceLeDiff, Nat.reduceAdd, evs, evo, evi, bnd_ok, sbd_ok, pur_some, wpe_ok, wps_nx, wps_rt, b_add, b_sub, c_lt, c_le, c_gt, c_ge, c_eq, c_ne, c_in, c_nin, c_is, c_isnot, l_get0, l_gets, l_set0, l_sets, o_map, l_maps, l_map0, l_apps, l_app0, List.append_nil, if_true, le_size, fresh_f', mkTup_ok, b_pow hpw, e6, p2, eq_i, decide_true]
theorem law_ok (n : Nat) (ns : List Int) : ∃ s, cal GG (n + 7) i_law [.scr ns] [] = some (.ok (.bl true) s) := by
  suffices h : WPE (cal GG (n + 7) i_law [.scr ns] []) fun r _ => r = .bl true by
    obtain ⟨r, s, e, rfl⟩ := h
    exact ⟨s, e⟩
  refine cal_wp Gi_law rfl ?_
  show WPS (ex _ 0 _ [some (.scr ns), none, none, none, none, none, none, none, none, none, none, none, none, none] []) _ _
  obtain ⟨N, s0, e0, hN, _, _, hb0⟩ := bags_ok (n := n + 3) (ns := ns) (limit := 6) (by decide) (by decide)
  have hll : longI = 1000000000000000 := rfl
  refine wps_seq (wps_for ((List.range N).map fun i => D.loc i) (fun _ ρ s => ∃ y1 y2 y3 y4 y5 y6 y7 y8 y9 y10 y11 y12 y13, ρ = [some (.scr ns), y1, y2, y3, y4, y5, y6, y7, y8, y9, y10, y11, y12, y13] ∧ Bags N s) ?_ ?_ ?_)
  · refine WPE.mk (a := (List.range N).map fun i => D.loc i) (s := s0) ?_ ⟨rfl, none, none, none, none, none, none, none, none, none, none, none, none, none, rfl, hb0⟩
    simp only [ev_var, ev_cint, ev_cstr, ev_cbl, ev_cnon, ev_g, ev_bin, ev_neg, ev_not, ev_cmp, ev_chn, ev_chn3, ev_dst, ev_revT, ev_stp, ev_lix, ev_err, ev_srt, ev_wlk, ev_lgn, lstO_ok, ev_gf, ev_isl, ev_fld, ev_mth, ev_msp, ev_prp, ev_oln, ev_con0, ev_con1, ev_cmt, ev_oeq, ev_isp, ev_ccn, okO_ok, ev_cav, ev_cpm, ev_and, ev_or, ev_ite, ev_tup, ev_lst, ev_call, ev_bi, ev_isi, ev_idx, ev_slc, ev_rev, ev_lrng, ev_lrng1, ev_dnew, ev_cpy, ev_comp, mkTup_ok, l_lens, l_len0, Nat.reduceLeDiff, Nat.reduceAdd, evs, evo, evi, bnd_ok, sbd_ok, pur_some, wpe_ok, wps_nx, wps_rt, b_add, b_sub, c_lt, c_le, c_gt, c_ge, c_eq, c_ne, c_in, c_nin, c_is, c_isnot, l_get0, l_gets, l_set0, l_sets, o_map, l_maps, l_map0, l_apps, l_app0, List.append_nil, if_true, le_size, fresh_f', e0]
  · rintro i x ρ s hx ⟨y1, y2, y3, y4, y5, y6, y7, y8, y9, y10, y11, y12, y13, rfl, hb⟩
    obtain ⟨hp, rfl⟩ : i < N ∧ x = .loc i := by
      rw [List.getElem?_map] at hx
      cases e : (List.range N)[i]? with
      | none =>
        rw [e] at hx
        cases hx
      | some j =>
        rw [e] at hx
        obtain ⟨h1, h2⟩ := List.getElem?_eq_some_iff.mp e
        rw [List.getElem_range] at h2
        subst h2
        rw [List.length_range] at h1
        exact ⟨h1, (Option.some.inj hx).symm⟩
    refine ⟨_, rfl, ?_⟩
    simp only [ev_var, ev_cint, ev_cstr, ev_cbl, ev_cnon, ev_g, ev_bin, ev_neg, ev_not, ev_cmp, ev_chn, ev_chn3, ev_dst, ev_revT, ev_stp, ev_lix, ev_err, ev_srt, ev_wlk, ev_lgn, lstO_ok, ev_gf, ev_isl, ev_fld, ev_mth, ev_msp, ev_prp, ev_oln, ev_con0, ev_con1, ev_cmt, ev_oeq, ev_isp, ev_ccn, okO_ok, ev_cav, ev_cpm, ev_and, ev_or, ev_ite, ev_tup, ev_lst, ev_call, ev_bi, ev_isi, ev_idx, ev_slc, ev_rev, ev_lrng, ev_lrng1, ev_dnew, ev_cpy, ev_comp, mkTup_ok, l_lens, l_len0, Nat.reduceLeDiff, Nat.reduceAdd, evs, evo, evi, bnd_ok, sbd_ok, pur_some, wpe_ok, wps_nx, wps_rt, b_add, b_sub, c_lt, c_le, c_gt, c_ge, c_eq, c_ne, c_in, c_nin, c_is, c_isnot, l_get0, l_gets, l_set0, l_sets, o_map, l_maps, l_map0, l_apps, l_app0, List.append_nil, if_true, le_size, fresh_f']
    obtain ⟨m, ws, s1, e1, hm, hl, k1⟩ := job_ok (n := n + 3) (most := 5) hb hp (by decide) (by decide)
    obtain ⟨more, s2, e2, hl2, k2⟩ := words_ok (n := n + 4) (most := 5) k1.bag hp (by decide) (by decide)
    obtain ⟨c, s3, e3, c0, c1, k3⟩ := take_ok (n := n + 5) (many := 301) k2.bag hp (by decide)
    have hmp := hm.pos
    have jj : JOk m ws := ⟨hm, by omega⟩
    have jw : ∀ done : List Wd, done.length ≤ 5 → JOk m (ws ++ done) := fun done hd => ⟨hm, by rw [List.length_append]; omega⟩
    have hml : more.length ≤ 5 := by omega
    have jm := jw more hml
    refine wps_seq (wps_par ?_)
    simp only [ev_var, ev_cint, ev_cstr, ev_cbl, ev_cnon, ev_g, ev_bin, ev_neg, ev_not, ev_cmp, ev_chn, ev_chn3, ev_dst, ev_revT, ev_stp, ev_lix, ev_err, ev_srt, ev_wlk, ev_lgn, lstO_ok, ev_gf, ev_isl, ev_fld, ev_mth, ev_msp, ev_prp, ev_oln, ev_con0, ev_con1, ev_cmt, ev_oeq, ev_isp, ev_ccn, okO_ok, ev_cav, ev_cpm, ev_and, ev_or, ev_ite, ev_tup, ev_lst, ev_call, ev_bi, ev_isi, ev_idx, ev_slc, ev_rev, ev_lrng, ev_lrng1, ev_dnew, ev_cpy, ev_comp, mkTup_ok, l_lens, l_len0, Nat.reduceLeDiff, Nat.reduceAdd, evs, evo, evi, bnd_ok, sbd_ok, pur_some, wpe_ok, wps_nx, wps_rt, b_add, b_sub, c_lt, c_le, c_gt, c_ge, c_eq, c_ne, c_in, c_nin, c_is, c_isnot, l_get0, l_gets, l_set0, l_sets, o_map, l_maps, l_map0, l_apps, l_app0, List.append_nil, if_true, le_size, fresh_f', e1, e2]
    refine ⟨_, rfl, ?_⟩
    simp only [ev_var, ev_cint, ev_cstr, ev_cbl, ev_cnon, ev_g, ev_bin, ev_neg, ev_not, ev_cmp, ev_chn, ev_chn3, ev_dst, ev_revT, ev_stp, ev_lix, ev_err, ev_srt, ev_wlk, ev_lgn, lstO_ok, ev_gf, ev_isl, ev_fld, ev_mth, ev_msp, ev_prp, ev_oln, ev_con0, ev_con1, ev_cmt, ev_oeq, ev_isp, ev_ccn, okO_ok, ev_cav, ev_cpm, ev_and, ev_or, ev_ite, ev_tup, ev_lst, ev_call, ev_bi, ev_isi, ev_idx, ev_slc, ev_rev, ev_lrng, ev_lrng1, ev_dnew, ev_cpy, ev_comp, mkTup_ok, l_lens, l_len0, Nat.reduceLeDiff, Nat.reduceAdd, evs, evo, evi, bnd_ok, sbd_ok, pur_some, wpe_ok, wps_nx, wps_rt, b_add, b_sub, c_lt, c_le, c_gt, c_ge, c_eq, c_ne, c_in, c_nin, c_is, c_isnot, l_get0, l_gets, l_set0, l_sets, o_map, l_maps, l_map0, l_apps, l_app0, List.append_nil, if_true, le_size, fresh_f']
    have hadd : (ws.map wD).length + (more.map wD).length ≤ sizeLine := by
      rw [List.length_map, List.length_map]
      have : sizeLine = 16777216 := rfl
      omega
    have ejw : D.tup [.int m, .tup (ws.map wD ++ more.map wD)] = jD m (ws ++ more) := by rw [jD, List.map_append]
    refine wps_seq (wps_set ?_)
    simp only [ev_var, ev_cint, ev_cstr, ev_cbl, ev_cnon, ev_g, ev_bin, ev_neg, ev_not, ev_cmp, ev_chn, ev_chn3, ev_dst, ev_revT, ev_stp, ev_lix, ev_err, ev_srt, ev_wlk, ev_lgn, lstO_ok, ev_gf, ev_isl, ev_fld, ev_mth, ev_msp, ev_prp, ev_oln, ev_con0, ev_con1, ev_cmt, ev_oeq, ev_isp, ev_ccn, okO_ok, ev_cav, ev_cpm, ev_and, ev_or, ev_ite, ev_tup, ev_lst, ev_call, ev_bi, ev_isi, ev_idx, ev_slc, ev_rev, ev_lrng, ev_lrng1, ev_dnew, ev_cpy, ev_comp, mkTup_ok, l_lens, l_len0, Nat.reduceLeDiff, Nat.reduceAdd, evs, evo, evi, bnd_ok, sbd_ok, pur_some, wpe_ok, wps_nx, wps_rt, b_add, b_sub, c_lt, c_le, c_gt, c_ge, c_eq, c_ne, c_in, c_nin, c_is, c_isnot, l_get0, l_gets, l_set0, l_sets, o_map, l_maps, l_map0, l_apps, l_app0, List.append_nil, jD_0, jD_1, b_addT hadd, mkTup_ok (show [D.int m, .tup (ws.map wD ++ more.map wD)].length ≤ 1000 by simp), ejw]
    refine wps_seq (wps_set ?_)
    simp only [ev_var, ev_cint, ev_cstr, ev_cbl, ev_cnon, ev_g, ev_bin, ev_neg, ev_not, ev_cmp, ev_chn, ev_chn3, ev_dst, ev_revT, ev_stp, ev_lix, ev_err, ev_srt, ev_wlk, ev_lgn, lstO_ok, ev_gf, ev_isl, ev_fld, ev_mth, ev_msp, ev_prp, ev_oln, ev_con0, ev_con1, ev_cmt, ev_oeq, ev_isp, ev_ccn, okO_ok, ev_cav, ev_cpm, ev_and, ev_or, ev_ite, ev_tup, ev_lst, ev_call, ev_bi, ev_isi, ev_idx, ev_slc, ev_rev, ev_lrng, ev_lrng1, ev_dnew, ev_cpy, ev_comp, mkTup_ok, l_lens, l_len0, Nat.reduceLeDiff, Nat.reduceAdd, evs, evo, evi, bnd_ok, sbd_ok, pur_some, wpe_ok, wps_nx, wps_rt, b_add, b_sub, c_lt, c_le, c_gt, c_ge, c_eq, c_ne, c_in, c_nin, c_is, c_isnot, l_get0, l_gets, l_set0, l_sets, o_map, l_maps, l_map0, l_apps, l_app0, List.append_nil, if_true, le_size, fresh_f', e3]
    have hrow : ∀ (done : List Wd) (s : Sto), done.length ≤ 5 → cal GG (n + 6) i_row [jD m (ws ++ done), .int c] s = some (.ok (.lst ((rowOf m (ws ++ done) c).map .int)) s) := fun done s hd => row_ok (n := n + 1) (jw done hd) c0 (by omega)
    have hrow0 : ∀ s : Sto, cal GG (n + 6) i_row [jD m ws, .int c] s = some (.ok (.lst ((rowOf m ws c).map .int)) s) := fun s => row_ok (n := n + 1) jj c0 (by omega)
    refine wps_seq (wps_set ?_)
    simp only [ev_var, ev_cint, ev_cstr, ev_cbl, ev_cnon, ev_g, ev_bin, ev_neg, ev_not, ev_cmp, ev_chn, ev_chn3, ev_dst, ev_revT, ev_stp, ev_lix, ev_err, ev_srt, ev_wlk, ev_lgn, lstO_ok, ev_gf, ev_isl, ev_fld, ev_mth, ev_msp, ev_prp, ev_oln, ev_con0, ev_con1, ev_cmt, ev_oeq, ev_isp, ev_ccn, okO_ok, ev_cav, ev_cpm, ev_and, ev_or, ev_ite, ev_tup, ev_lst, ev_call, ev_bi, ev_isi, ev_idx, ev_slc, ev_rev, ev_lrng, ev_lrng1, ev_dnew, ev_cpy, ev_comp, mkTup_ok, l_lens, l_len0, Nat.reduceLeDiff, Nat.reduceAdd, evs, evo, evi, bnd_ok, sbd_ok, pur_some, wpe_ok, wps_nx, wps_rt, b_add, b_sub, c_lt, c_le, c_gt, c_ge, c_eq, c_ne, c_in, c_nin, c_is, c_isnot, l_get0, l_gets, l_set0, l_sets, o_map, l_maps, l_map0, l_apps, l_app0, List.append_nil, if_true, le_size, fresh_f', hrow0]
    -- items, word by word
    refine wps_cut (fun ρ s9 => ∃ y5, ρ = [some (.scr ns), some (.loc i), some (jD m (ws ++ more)), some (.int c), some (.lst ((rowOf m (ws ++ more) c).map .int)), y5, y6, y7, y8, y9, some (jD m ws), some (.tup (more.map wD)), y12, y13] ∧ s9 = s3) (wps_forR (fun xs ρ s9 => ∃ (done rest : List Wd) (y5 : Option D), more = done ++ rest ∧ xs = rest.map wD ∧ ρ = [some (.scr ns), some (.loc i), some (jD m (ws ++ more)), some (.int c), some (.lst ((rowOf m (ws ++ done) c).map .int)), y5, y6, y7, y8, y9, some (jD m ws), some (.tup (more.map wD)), y12, y13] ∧ s9 = s3) ?_ ?_ ?_) ?_
    · exact WPE.mk (a := more.map wD) (s := s3) (by simp only [ev_var, ev_cint, ev_cstr, ev_cbl, ev_cnon, ev_g, ev_bin, ev_neg, ev_not, ev_cmp, ev_chn, ev_chn3, ev_dst, ev_revT, ev_stp, ev_lix, ev_err, ev_srt, ev_wlk, ev_lgn, lstO_ok, ev_gf, ev_isl, ev_fld, ev_mth, ev_msp, ev_prp, ev_oln, ev_con0, ev_con1, ev_cmt, ev_oeq, ev_isp, ev_ccn, okO_ok, ev_cav, ev_cpm, ev_and, ev_or, ev_ite, ev_tup, ev_lst, ev_call, ev_bi, ev_isi, ev_idx, ev_slc, ev_rev, ev_lrng, ev_lrng1, ev_dnew, ev_cpy, ev_comp, mkTup_ok, l_lens, l_len0, Nat.reduceLeDiff, Nat.reduceAdd, evs, evo, evi, bnd_ok, sbd_ok, pur_some, wpe_ok, wps_nx, wps_rt, b_add, b_sub, c_lt, c_le, c_gt, c_ge, c_eq, c_ne, c_in, c_nin, c_is, c_isnot, l_get0, l_gets, l_set0, l_sets, o_map, l_maps, l_map0, l_apps, l_app0, List.append_nil]) ⟨[], more, y5, rfl, rfl, by rw [List.append_nil], rfl⟩
    · rintro x xs ρ s9 ⟨done, rest, z5, hw, e, rfl, rfl⟩
      cases rest with
      | nil => cases e
      | cons w rest =>
        rw [List.map_cons, List.cons.injEq] at e
        obtain ⟨rfl, rfl⟩ := e
        refine ⟨_, rfl, ?_⟩
        refine wps_seq (wps_set ?_)
        simp only [ev_var, ev_cint, ev_cstr, ev_cbl, ev_cnon, ev_g, ev_bin, ev_neg, ev_not, ev_cmp, ev_chn, ev_chn3, ev_dst, ev_revT, ev_stp, ev_lix, ev_err, ev_srt, ev_wlk, ev_lgn, lstO_ok, ev_gf, ev_isl, ev_fld, ev_mth, ev_msp, ev_prp, ev_oln, ev_con0, ev_con1, ev_cmt, ev_oeq, ev_isp, ev_ccn, okO_ok, ev_cav, ev_cpm, ev_and, ev_or, ev_ite, ev_tup, ev_lst, ev_call, ev_bi, ev_isi, ev_idx, ev_slc, ev_rev, ev_lrng, ev_lrng1, ev_dnew, ev_cpy, ev_comp, mkTup_ok, l_lens, l_len0, Nat.reduceLeDiff, Nat.reduceAdd, evs, evo, evi, bnd_ok, sbd_ok, pur_some, wpe_ok, wps_nx, wps_rt, b_add, b_sub, c_lt, c_le, c_gt, c_ge, c_eq, c_ne, c_in, c_nin, c_is, c_isnot, l_get0, l_gets, l_set0, l_sets, o_map, l_maps, l_map0, l_apps, l_app0, List.append_nil, l_after_ok, rowOf_cut hmp.1 c0]
        refine wps_skip ⟨done ++ [w], rest, some (wD w), by rw [hw]; simp, rfl, ?_, rfl⟩
        rw [List.append_assoc]
    · rintro ρ s9 ⟨done, rest, z5, hw, e, rfl, rfl⟩
      have e : rest = [] := by simpa using e.symm
      subst e
      rw [List.append_nil] at hw
      subst hw
      exact ⟨_, rfl, rfl⟩
    rintro ρ s9 ⟨z5, rfl, rfl⟩
    obtain ⟨W, hW⟩ : ∃ W, W = ws ++ more := ⟨_, rfl⟩
    obtain ⟨P, hP⟩ : ∃ P, P = spanOf m W c := ⟨_, rfl⟩
    have hrowW : ∀ s : Sto, cal GG (n + 6) i_row [jD m W, .int c] s = some (.ok (.lst ((rowOf m W c).map .int)) s) := fun s => by rw [hW]; exact hrow more s hml
    have jW : JOk m W := by rw [hW]; exact jm
    have erow : rowOf m W c = P.row c := by rw [hP]; rfl
    have okP := (spanOf_ok (ws := W) hmp.1 c0).1
    have okn := (spanOf_ok (ws := W) hmp.1 c0).2.1
    rw [← hP] at okP okn
    have n0 := okP.n0
    have hwalk : ∀ s : Sto, cal GG (n + 6) i_walk [jD m W, .int c] s = some (.ok (.lst ((rowOf m W c).map .int)) s) := fun s => walk_ok jW c0 (by omega)
    have hlen : ∀ s : Sto, cal GG (n + 6) i_length [jD m W, .int c] s = some (.ok (.int P.n) s) := fun s => by
      rw [hP]
      exact length_ok (n := n + 1) jW c0 (by omega)
    rw [← hW]
    rw [erow] at hrowW hwalk ⊢
    have hrl : (((P.row c).length : Nat) : Int) = P.n := row_len5 n0
    refine wps_seq (wps_if (b := false) (WPE.of_eq ?_) (fun z => absurd z (by decide)) fun _ => ?_)
    · simp only [ev_var, ev_cint, ev_cstr, ev_cbl, ev_cnon, ev_g, ev_bin, ev_neg, ev_not, ev_cmp, ev_chn, ev_chn3, ev_dst, ev_revT, ev_stp, ev_lix, ev_err, ev_srt, ev_wlk, ev_lgn, lstO_ok, ev_gf, ev_isl, ev_fld, ev_mth, ev_msp, ev_prp, ev_oln, ev_con0, ev_con1, ev_cmt, ev_oeq, ev_isp, ev_ccn, okO_ok, ev_cav, ev_cpm, ev_and, ev_or, ev_ite, ev_tup, ev_lst, ev_call, ev_bi, ev_isi, ev_idx, ev_slc, ev_rev, ev_lrng, ev_lrng1, ev_dnew, ev_cpy, ev_comp, mkTup_ok, l_lens, l_len0, Nat.reduceLeDiff, Nat.reduceAdd, evs, evo, evi, bnd_ok, sbd_ok, pur_some, wpe_ok, wps_nx, wps_rt, b_add, b_sub, c_lt, c_le, c_gt, c_ge, c_eq, c_ne, c_in, c_nin, c_is, c_isnot, l_get0, l_gets, l_set0, l_sets, o_map, l_maps, l_map0, l_apps, l_app0, List.append_nil, if_true, le_size, fresh_f', hrowW]
      rw [eq_nice (lis_nice _) (lis_nice _)]
      simp only [ev_var, ev_cint, ev_cstr, ev_cbl, ev_cnon, ev_g, ev_bin, ev_neg, ev_not, ev_cmp, ev_chn, ev_chn3, ev_dst, ev_revT, ev_stp, ev_lix, ev_err, ev_srt, ev_wlk, ev_lgn, lstO_ok, ev_gf, ev_isl, ev_fld, ev_mth, ev_msp, ev_prp, ev_oln, ev_con0, ev_con1, ev_cmt, ev_oeq, ev_isp, ev_ccn, okO_ok, ev_cav, ev_cpm, ev_and, ev_or, ev_ite, ev_tup, ev_lst, ev_call, ev_bi, ev_isi, ev_idx, ev_slc, ev_rev, ev_lrng, ev_lrng1, ev_dnew, ev_cpy, ev_comp, mkTup_ok, l_lens, l_len0, Nat.reduceLeDiff, Nat.reduceAdd, evs, evo, evi, bnd_ok, sbd_ok, pur_some, wpe_ok, wps_nx, wps_rt, b_add, b_sub, c_lt, c_le, c_gt, c_ge, c_eq, c_ne, c_in, c_nin, c_is, c_isnot, l_get0, l_gets, l_set0, l_sets, o_map, l_maps, l_map0, l_apps, l_app0, List.append_nil, if_true, le_size, fresh_f', decide_true, Bool.not_true, hwalk]
      rw [eq_nice (lis_nice _) (lis_nice _)]
      simp only [ev_var, ev_cint, ev_cstr, ev_cbl, ev_cnon, ev_g, ev_bin, ev_neg, ev_not, ev_cmp, ev_chn, ev_chn3, ev_dst, ev_revT, ev_stp, ev_lix, ev_err, ev_srt, ev_wlk, ev_lgn, lstO_ok, ev_gf, ev_isl, ev_fld, ev_mth, ev_msp, ev_prp, ev_oln, ev_con0, ev_con1, ev_cmt, ev_oeq, ev_isp, ev_ccn, okO_ok, ev_cav, ev_cpm, ev_and, ev_or, ev_ite, ev_tup, ev_lst, ev_call, ev_bi, ev_isi, ev_idx, ev_slc, ev_rev, ev_lrng, ev_lrng1, ev_dnew, ev_cpy, ev_comp, mkTup_ok, l_lens, l_len0, Nat.reduceLeDiff, Nat.reduceAdd, evs, evo, evi, bnd_ok, sbd_ok, pur_some, wpe_ok, wps_nx, wps_rt, b_add, b_sub, c_lt, c_le, c_gt, c_ge, c_eq, c_ne, c_in, c_nin, c_is, c_isnot, l_get0, l_gets, l_set0, l_sets, o_map, l_maps, l_map0, l_apps, l_app0, List.append_nil, if_true, le_size, fresh_f', decide_true, Bool.not_true]
    refine wps_skip (wps_seq (wps_if (b := false) (WPE.of_eq ?_) (fun z => absurd z (by decide)) fun _ => ?_))
    · simp only [ev_var, ev_cint, ev_cstr, ev_cbl, ev_cnon, ev_g, ev_bin, ev_neg, ev_not, ev_cmp, ev_chn, ev_chn3, ev_dst, ev_revT, ev_stp, ev_lix, ev_err, ev_srt, ev_wlk, ev_lgn, lstO_ok, ev_gf, ev_isl, ev_fld, ev_mth, ev_msp, ev_prp, ev_oln, ev_con0, ev_con1, ev_cmt, ev_oeq, ev_isp, ev_ccn, okO_ok, ev_cav, ev_cpm, ev_and, ev_or, ev_ite, ev_tup, ev_lst, ev_call, ev_bi, ev_isi, ev_idx, ev_slc, ev_rev, ev_lrng, ev_lrng1, ev_dnew, ev_cpy, ev_comp, mkTup_ok, l_lens, l_len0, Nat.reduceLeDiff, Nat.reduceAdd, evs, evo, evi, bnd_ok, sbd_ok, pur_some, wpe_ok, wps_nx, wps_rt, b_add, b_sub, c_lt, c_le, c_gt, c_ge, c_eq, c_ne, c_in, c_nin, c_is, c_isnot, l_get0, l_gets, l_set0, l_sets, o_map, l_maps, l_map0, l_apps, l_app0, List.append_nil, if_true, le_size, fresh_f', hlen, len_ints, hrl, eq_i, decide_true, Bool.not_true]
    -- the pile
    obtain ⟨s4, e4, p4, l4, o4⟩ := after_pile_ok (n := n) (s := s9) jj c0 (by omega : c ≤ 300)
    have hNl : N ≤ s9.length := Bags.le k3.bag
    have b4 : Bags N s4 := k3.bag.same fun q hq => o4 q (by omega)
    refine wps_skip (wps_seq (wps_set ?_))
    simp only [ev_var, ev_cint, ev_cstr, ev_cbl, ev_cnon, ev_g, ev_bin, ev_neg, ev_not, ev_cmp, ev_chn, ev_chn3, ev_dst, ev_revT, ev_stp, ev_lix, ev_err, ev_srt, ev_wlk, ev_lgn, lstO_ok, ev_gf, ev_isl, ev_fld, ev_mth, ev_msp, ev_prp, ev_oln, ev_con0, ev_con1, ev_cmt, ev_oeq, ev_isp, ev_ccn, okO_ok, ev_cav, ev_cpm, ev_and, ev_or, ev_ite, ev_tup, ev_lst, ev_call, ev_bi, ev_isi, ev_idx, ev_slc, ev_rev, ev_lrng, ev_lrng1, ev_dnew, ev_cpy, ev_comp, mkTup_ok, l_lens, l_len0, Nat.reduceLeDiff, Nat.reduceAdd, evs, evo, evi, bnd_ok, sbd_ok, pur_some, wpe_ok, wps_nx, wps_rt, b_add, b_sub, c_lt, c_le, c_gt, c_ge, c_eq, c_ne, c_in, c_nin, c_is, c_isnot, l_get0, l_gets, l_set0, l_sets, o_map, l_maps, l_map0, l_apps, l_app0, List.append_nil, if_true, le_size, fresh_f', e4]
    refine wps_cut (fun ρ s => ∃ y5 sts, ρ = [some (.scr ns), some (.loc i), some (jD m W), some (.int c), some (.lst ((P.row c).map .int)), y5, some (.loc s9.length), y7, y8, y9, some (jD m ws), some (.tup (more.map wD)), y12, y13] ∧ Bags N s ∧ IsPile s s9.length c m (sts ++ [(W, P)])) (wps_forR (fun xs ρ s => ∃ (done rest : List Wd) (y5 : Option D) (sts : List St2), more = done ++ rest ∧ xs = rest.map wD ∧ ρ = [some (.scr ns), some (.loc i), some (jD m W), some (.int c), some (.lst ((P.row c).map .int)), y5, some (.loc s9.length), y7, y8, y9, some (jD m ws), some (.tup (more.map wD)), y12, y13] ∧ Bags N s ∧ IsPile s s9.length c m (sts ++ [(ws ++ done, spanOf m (ws ++ done) c)]) ∧ sts.length = done.length + 1) ?_ ?_ ?_) ?_
    · exact WPE.mk (a := more.map wD) (s := s4) (by simp only [ev_var, ev_cint, ev_cstr, ev_cbl, ev_cnon, ev_g, ev_bin, ev_neg, ev_not, ev_cmp, ev_chn, ev_chn3, ev_dst, ev_revT, ev_stp, ev_lix, ev_err, ev_srt, ev_wlk, ev_lgn, lstO_ok, ev_gf, ev_isl, ev_fld, ev_mth, ev_msp, ev_prp, ev_oln, ev_con0, ev_con1, ev_cmt, ev_oeq, ev_isp, ev_ccn, okO_ok, ev_cav, ev_cpm, ev_and, ev_or, ev_ite, ev_tup, ev_lst, ev_call, ev_bi, ev_isi, ev_idx, ev_slc, ev_rev, ev_lrng, ev_lrng1, ev_dnew, ev_cpy, ev_comp, mkTup_ok, l_lens, l_len0, Nat.reduceLeDiff, Nat.reduceAdd, evs, evo, evi, bnd_ok, sbd_ok, pur_some, wpe_ok, wps_nx, wps_rt, b_add, b_sub, c_lt, c_le, c_gt, c_ge, c_eq, c_ne, c_in, c_nin, c_is, c_isnot, l_get0, l_gets, l_set0, l_sets, o_map, l_maps, l_map0, l_apps, l_app0, List.append_nil]) ⟨[], more, _, [([], spanOf m [] c)], rfl, rfl, rfl, b4, by rw [List.append_nil]; exact p4, rfl⟩
    · rintro x xs ρ s ⟨done, rest, z5, sts, hw, e, rfl, hbs, hpl, hst⟩
      cases rest with
      | nil => cases e
      | cons w rest =>
        rw [List.map_cons, List.cons.injEq] at e
        obtain ⟨rfl, rfl⟩ := e
        refine ⟨_, rfl, ?_⟩
        have hdl : done.length + 1 ≤ 5 := by
          have : more.length = done.length + (rest.length + 1) := by rw [hw]; simp
          omega
        obtain ⟨o1, o2, _⟩ := spanOf_ok (ws := ws ++ done) hmp.1 c0
        have o3 := spanOf_s (ws := ws ++ done) hmp.1 c0 (by rw [List.length_append]; omega)
        have l0 : (ws ++ done).length ≤ 1000 := by
          rw [List.length_append]
          omega
        have l1 : sts.length ≤ 1000 := by omega
        have l2 : (spanOf m (ws ++ done) c).s.natAbs < 2 ^ 40 := Nat.lt_of_le_of_lt o3 (by decide)
        have l3 : (spanOf m (ws ++ done) c).n ≤ 10000 := by omega
        have l4 : [w].length ≤ 10 := by simp
        obtain ⟨s', e', p', l', k'⟩ := apply_ok (n := n + 2) (ws0 := ws ++ done) (sts := sts) (ws := [w]) hpl o1 l2 l3 l4 l0 l1
        have e' : cal GG (n + 6) i_m_apply [.loc s9.length, wD w] s = _ := e'
        refine wps_seq (wps_expr ?_)
        simp only [ev_var, ev_cint, ev_cstr, ev_cbl, ev_cnon, ev_g, ev_bin, ev_neg, ev_not, ev_cmp, ev_chn, ev_chn3, ev_dst, ev_revT, ev_stp, ev_lix, ev_err, ev_srt, ev_wlk, ev_lgn, lstO_ok, ev_gf, ev_isl, ev_fld, ev_mth, ev_msp, ev_prp, ev_oln, ev_con0, ev_con1, ev_cmt, ev_oeq, ev_isp, ev_ccn, okO_ok, ev_cav, ev_cpm, ev_and, ev_or, ev_ite, ev_tup, ev_lst, ev_call, ev_bi, ev_isi, ev_idx, ev_slc, ev_rev, ev_lrng, ev_lrng1, ev_dnew, ev_cpy, ev_comp, mkTup_ok, l_lens, l_len0, Nat.reduceLeDiff, Nat.reduceAdd, evs, evo, evi, bnd_ok, sbd_ok, pur_some, wpe_ok, wps_nx, wps_rt, b_add, b_sub, c_lt, c_le, c_gt, c_ge, c_eq, c_ne, c_in, c_nin, c_is, c_isnot, l_get0, l_gets, l_set0, l_sets, o_map, l_maps, l_map0, l_apps, l_app0, List.append_nil, hpl.isp, if_true, e']
        refine wps_skip ⟨done ++ [w], rest, some (wD w), sts ++ [(ws ++ done, spanOf m (ws ++ done) c)], by rw [hw]; simp, rfl, rfl, hbs.same fun q hq => k' q (by omega) (by omega), ?_, by simp only [List.length_append, List.length_singleton]; omega⟩
        have eapp : ws ++ (done ++ [w]) = ws ++ done ++ [w] := (List.append_assoc _ _ _).symm
        rw [eapp, spanOf_snoc m (ws ++ done) w c]
        exact p'
    · rintro ρ s ⟨done, rest, z5, sts, hw, e, rfl, hbs, hpl, hst⟩
      have e : rest = [] := by simpa using e.symm
      subst e
      rw [List.append_nil] at hw
      subst hw
      refine ⟨_, sts, rfl, hbs, ?_⟩
      rw [hP, hW]
      exact hpl
    rintro ρ s5 ⟨z5', sts, rfl, hb5, hpl⟩
    have r1 : ∀ s', s' = s5 → cal GG (n + 6) i_m_row [.loc s9.length] s' = some (.ok (.tup ((P.row c).map .int)) s5) := fun s' e => by
      rw [e]
      exact pil_row (n := n + 4) hpl
    have r2 : cal GG (n + 6) i_m_words [.loc s9.length] s5 = some (.ok (.tup (W.map wD)) s5) := pil_words (n := n + 4) hpl
    have r3 : cal GG (n + 6) i_m_len [.loc s9.length] s5 = some (.ok (.int ((P.row c).length : Nat)) s5) := pil_len (n := n + 4) hpl
    have r1 := r1 s5 rfl
    have eW : ws.map wD ++ more.map wD = W.map wD := by rw [hW, List.map_append]
    have h63 : 0 ≤ P.n ∧ P.n < 2 ^ 63 := ⟨n0, by omega⟩
    refine wps_seq (wps_if (b := false) (WPE.of_eq ?_) (fun z => absurd z (by decide)) fun _ => ?_)
    · simp only [ev_var, ev_cint, ev_cstr, ev_cbl, ev_cnon, ev_g, ev_bin, ev_neg, ev_not, ev_cmp, ev_chn, ev_chn3, ev_dst, ev_revT, ev_stp, ev_lix, ev_err, ev_srt, ev_wlk, ev_lgn, lstO_ok, ev_gf, ev_isl, ev_fld, ev_mth, ev_msp, ev_prp, ev_oln, ev_con0, ev_con1, ev_cmt, ev_oeq, ev_isp, ev_ccn, okO_ok, ev_cav, ev_cpm, ev_and, ev_or, ev_ite, ev_tup, ev_lst, ev_call, ev_bi, ev_isi, ev_idx, ev_slc, ev_rev, ev_lrng, ev_lrng1, ev_dnew, ev_cpy, ev_comp, mkTup_ok, l_lens, l_len0, Nat.reduceLeDiff, Nat.reduceAdd, evs, evo, evi, bnd_ok, sbd_ok, pur_some, wpe_ok, wps_nx, wps_rt, b_add, b_sub, c_lt, c_le, c_gt, c_ge, c_eq, c_ne, c_in, c_nin, c_is, c_isnot, l_get0, l_gets, l_set0, l_sets, o_map, l_maps, l_map0, l_apps, l_app0, List.append_nil, if_true, le_size, fresh_f', hpl.isp, r1, bi_tup]
      rw [eq_nice (tups_niceI _) (tups_niceI _)]
      simp only [ev_var, ev_cint, ev_cstr, ev_cbl, ev_cnon, ev_g, ev_bin, ev_neg, ev_not, ev_cmp, ev_chn, ev_chn3, ev_dst, ev_revT, ev_stp, ev_lix, ev_err, ev_srt, ev_wlk, ev_lgn, lstO_ok, ev_gf, ev_isl, ev_fld, ev_mth, ev_msp, ev_prp, ev_oln, ev_con0, ev_con1, ev_cmt, ev_oeq, ev_isp, ev_ccn, okO_ok, ev_cav, ev_cpm, ev_and, ev_or, ev_ite, ev_tup, ev_lst, ev_call, ev_bi, ev_isi, ev_idx, ev_slc, ev_rev, ev_lrng, ev_lrng1, ev_dnew, ev_cpy, ev_comp, mkTup_ok, l_lens, l_len0, Nat.reduceLeDiff, Nat.reduceAdd, evs, evo, evi, bnd_ok, sbd_ok, pur_some, wpe_ok, wps_nx, wps_rt, b_add, b_sub, c_lt, c_le, c_gt, c_ge, c_eq, c_ne, c_in, c_nin, c_is, c_isnot, l_get0, l_gets, l_set0, l_sets, o_map, l_maps, l_map0, l_apps, l_app0, List.append_nil, if_true, le_size, fresh_f', decide_true, Bool.not_true, hpl.isp, r2, jD_1, b_addT hadd, eW]
      rw [eq_nice (wds_nice _) (wds_nice _)]
      simp only [ev_var, ev_cint, ev_cstr, ev_cbl, ev_cnon, ev_g, ev_bin, ev_neg, ev_not, ev_cmp, ev_chn, ev_chn3, ev_dst, ev_revT, ev_stp, ev_lix, ev_err, ev_srt, ev_wlk, ev_lgn, lstO_ok, ev_gf, ev_isl, ev_fld, ev_mth, ev_msp, ev_prp, ev_oln, ev_con0, ev_con1, ev_cmt, ev_oeq, ev_isp, ev_ccn, okO_ok, ev_cav, ev_cpm, ev_and, ev_or, ev_ite, ev_tup, ev_lst, ev_call, ev_bi, ev_isi, ev_idx, ev_slc, ev_rev, ev_lrng, ev_lrng1, ev_dnew, ev_cpy, ev_comp, mkTup_ok, l_lens, l_len0, Nat.reduceLeDiff, Nat.reduceAdd, evs, evo, evi, bnd_ok, sbd_ok, pur_some, wpe_ok, wps_nx, wps_rt, b_add, b_sub, c_lt, c_le, c_gt, c_ge, c_eq, c_ne, c_in, c_nin, c_is, c_isnot, l_get0, l_gets, l_set0, l_sets, o_map, l_maps, l_map0, l_apps, l_app0, List.append_nil, if_true, le_size, fresh_f', decide_true, Bool.not_true, hpl.isp, r3, hrl, if_pos h63, len_ints, eq_i]
    -- far
    obtain ⟨F, s6, e6, f0, f1, k6⟩ := far_ok (n := n + 4) (many := 10 ^ (14 : Int).toNat) hb5 hp (by decide) (by decide)
    have hpw : CPow 10 14 := ⟨by decide, by decide, by decide⟩
    have fl : F ≤ longI := by
      have : (10 : Int) ^ (14 : Int).toNat ≤ longI := by decide
      omega
    refine wps_skip (wps_seq (wps_set ?_))
    simp only [ev_var, ev_cint, ev_cstr, ev_cbl, ev_cnon, ev_g, ev_bin, ev_neg, ev_not, ev_cmp, ev_chn, ev_chn3, ev_dst, ev_revT, ev_stp, ev_lix, ev_err, ev_srt, ev_wlk, ev_lgn, lstO_ok, ev_gf, ev_isl, ev_fld, ev_mth, ev_msp, ev_prp, ev_oln, ev_con0, ev_con1, ev_cmt, ev_oeq, ev_isp, ev_ccn, okO_ok, ev_cav, ev_cpm, ev_and, ev_or, ev_ite, ev_tup, ev_lst, ev_call, ev_bi, ev_isi, ev_idx, ev_slc, ev_rev, ev_lrng, ev_lrng1, ev_dnew, ev_cpy, ev_comp, mkTup_ok, l_lens, l_len0, Nat.reduceLeDiff, Nat.reduceAdd, evs, evo, evi, bnd_ok, sbd_ok, pur_some, wpe_ok, wps_nx, wps_rt, b_add, b_sub, c_lt, c_le, c_gt, c_ge, c_eq, c_ne, c_in, c_nin, c_is, c_isnot, l_get0, l_gets, l_set0, l_sets, o_map, l_maps, l_map0, l_apps, l_app0, List.append_nil, if_true, le_size, fresh_f', b_pow hpw, e6]
    obtain ⟨A, hA⟩ : ∃ A, A = spanOf m ws F := ⟨_, rfl⟩
    obtain ⟨B, hB⟩ : ∃ B, B = spanOf m W F := ⟨_, rfl⟩
    have hAB : B = more.foldl Sp.after A := by rw [hB, hW, hA, spanOf_app]
    have okA := (spanOf_ok (ws := ws) hmp.1 f0).1
    have okB := (spanOf_ok (ws := W) hmp.1 f0).1
    have fitB := spanOf_fit (ws := W) hmp.1 f0
    rw [← hA] at okA
    rw [← hB] at okB fitB
    have nB : B.n = lenW more A.n := by rw [hAB, fold_n]
    have lA : ∀ s, cal GG (n + 6) i_length [jD m ws, .int F] s = some (.ok (.int A.n) s) := fun s => by rw [hA]; exact length_ok (n := n + 1) jj f0 fl
    have lB : ∀ s, cal GG (n + 6) i_length [jD m W, .int F] s = some (.ok (.int B.n) s) := fun s => by rw [hB]; exact length_ok (n := n + 1) jW f0 fl
    have back : ∀ (at_ : Int) (s : Sto), cal GG (n + 6) i_l_back [.tup (more.map wD), .int A.n, .int at_] s = some (.ok (.tup [.int B.n, .int (bk more A.n at_)]) s) := fun at_ s => by
      rw [nB]
      exact l_back_ok (n := n + 5) (by omega)
    have i0 : ∀ (a b : Int) (s : Sto), idxD s (.tup [.int a, .int b]) (.int 0) = some (.int a) := fun _ _ _ => rfl
    have i1 : ∀ (a b : Int) (s : Sto), idxD s (.tup [.int a, .int b]) (.int 1) = some (.int b) := fun _ _ _ => rfl
    refine wps_seq (wps_set ?_)
    simp only [ev_var, ev_cint, ev_cstr, ev_cbl, ev_cnon, ev_g, ev_bin, ev_neg, ev_not, ev_cmp, ev_chn, ev_chn3, ev_dst, ev_revT, ev_stp, ev_lix, ev_err, ev_srt, ev_wlk, ev_lgn, lstO_ok, ev_gf, ev_isl, ev_fld, ev_mth, ev_msp, ev_prp, ev_oln, ev_con0, ev_con1, ev_cmt, ev_oeq, ev_isp, ev_ccn, okO_ok, ev_cav, ev_cpm, ev_and, ev_or, ev_ite, ev_tup, ev_lst, ev_call, ev_bi, ev_isi, ev_idx, ev_slc, ev_rev, ev_lrng, ev_lrng1, ev_dnew, ev_cpy, ev_comp, mkTup_ok, l_lens, l_len0, Nat.reduceLeDiff, Nat.reduceAdd, evs, evo, evi, bnd_ok, sbd_ok, pur_some, wpe_ok, wps_nx, wps_rt, b_add, b_sub, c_lt, c_le, c_gt, c_ge, c_eq, c_ne, c_in, c_nin, c_is, c_isnot, l_get0, l_gets, l_set0, l_sets, o_map, l_maps, l_map0, l_apps, l_app0, List.append_nil, if_true, le_size, fresh_f', lA]
    refine wps_seq (wps_set ?_)
    simp only [ev_var, ev_cint, ev_cstr, ev_cbl, ev_cnon, ev_g, ev_bin, ev_neg, ev_not, ev_cmp, ev_chn, ev_chn3, ev_dst, ev_revT, ev_stp, ev_lix, ev_err, ev_srt, ev_wlk, ev_lgn, lstO_ok, ev_gf, ev_isl, ev_fld, ev_mth, ev_msp, ev_prp, ev_oln, ev_con0, ev_con1, ev_cmt, ev_oeq, ev_isp, ev_ccn, okO_ok, ev_cav, ev_cpm, ev_and, ev_or, ev_ite, ev_tup, ev_lst, ev_call, ev_bi, ev_isi, ev_idx, ev_slc, ev_rev, ev_lrng, ev_lrng1, ev_dnew, ev_cpy, ev_comp, mkTup_ok, l_lens, l_len0, Nat.reduceLeDiff, Nat.reduceAdd, evs, evo, evi, bnd_ok, sbd_ok, pur_some, wpe_ok, wps_nx, wps_rt, b_add, b_sub, c_lt, c_le, c_gt, c_ge, c_eq, c_ne, c_in, c_nin, c_is, c_isnot, l_get0, l_gets, l_set0, l_sets, o_map, l_maps, l_map0, l_apps, l_app0, List.append_nil, if_true, le_size, fresh_f', back, i0]
    refine wps_seq (wps_if (b := false) (WPE.of_eq ?_) (fun z => absurd z (by decide)) fun _ => ?_)
    · simp only [ev_var, ev_cint, ev_cstr, ev_cbl, ev_cnon, ev_g, ev_bin, ev_neg, ev_not, ev_cmp, ev_chn, ev_chn3, ev_dst, ev_revT, ev_stp, ev_lix, ev_err, ev_srt, ev_wlk, ev_lgn, lstO_ok, ev_gf, ev_isl, ev_fld, ev_mth, ev_msp, ev_prp, ev_oln, ev_con0, ev_con1, ev_cmt, ev_oeq, ev_isp, ev_ccn, okO_ok, ev_cav, ev_cpm, ev_and, ev_or, ev_ite, ev_tup, ev_lst, ev_call, ev_bi, ev_isi, ev_idx, ev_slc, ev_rev, ev_lrng, ev_lrng1, ev_dnew, ev_cpy, ev_comp, mkTup_ok, l_lens, l_len0, Nat.reduceLeDiff, Nat.reduceAdd, evs, evo, evi, bnd_ok, sbd_ok, pur_some, wpe_ok, wps_nx, wps_rt, b_add, b_sub, c_lt, c_le, c_gt, c_ge, c_eq, c_ne, c_in, c_nin, c_is, c_isnot, l_get0, l_gets, l_set0, l_sets, o_map, l_maps, l_map0, l_apps, l_app0, List.append_nil, if_true, le_size, fresh_f', lB, eq_i, decide_true, Bool.not_true]
    refine wps_skip (wps_seq (wps_if (b := decide (0 < B.n)) (WPE.of_eq ?_) (fun z => ?_) fun _ => ?_))
    · simp only [ev_var, ev_cint, ev_cstr, ev_cbl, ev_cnon, ev_g, ev_bin, ev_neg, ev_not, ev_cmp, ev_chn, ev_chn3, ev_dst, ev_revT, ev_stp, ev_lix, ev_err, ev_srt, ev_wlk, ev_lgn, lstO_ok, ev_gf, ev_isl, ev_fld, ev_mth, ev_msp, ev_prp, ev_oln, ev_con0, ev_con1, ev_cmt, ev_oeq, ev_isp, ev_ccn, okO_ok, ev_cav, ev_cpm, ev_and, ev_or, ev_ite, ev_tup, ev_lst, ev_call, ev_bi, ev_isi, ev_idx, ev_slc, ev_rev, ev_lrng, ev_lrng1, ev_dnew, ev_cpy, ev_comp, mkTup_ok, l_lens, l_len0, Nat.reduceLeDiff, Nat.reduceAdd, evs, evo, evi, bnd_ok, sbd_ok, pur_some, wpe_ok, wps_nx, wps_rt, b_add, b_sub, c_lt, c_le, c_gt, c_ge, c_eq, c_ne, c_in, c_nin, c_is, c_isnot, l_get0, l_gets, l_set0, l_sets, o_map, l_maps, l_map0, l_apps, l_app0, List.append_nil, if_true, le_size, fresh_f']
    · have hpos := of_decide_eq_true z
      obtain ⟨t, s7, e7, t0, t1, k7⟩ := take_ok (n := n + 5) (many := B.n) k6.bag hp hpos
      have hxi : ∀ at_ ∈ [0, B.n - 1, t], 0 ≤ at_ ∧ at_ < B.n := by
        intro x hx
        simp only [List.mem_cons, List.not_mem_nil, or_false] at hx
        rcases hx with rfl | rfl | rfl <;> omega
      obtain ⟨xs, hxs⟩ : ∃ xs, xs = [0, B.n - 1, t] := ⟨_, rfl⟩
      rw [← hxs] at hxi
      have hmap : [D.int 0, D.int (B.n - 1), D.int t] = xs.map .int := by rw [hxs]; rfl
      refine wps_seq (wps_for (xs.map .int) (fun _ ρ s => ∃ y12 y13, ρ = [some (.scr ns), some (.loc i), some (jD m W), some (.int c), some (.lst ((P.row c).map .int)), z5', some (.loc s9.length), some (.int F), some (.int A.n), some (.int B.n), some (jD m ws), some (.tup (more.map wD)), y12, y13] ∧ s = s7) ?_ ?_ ?_)
      · refine WPE.mk (a := xs.map .int) (s := s7) ?_ ⟨rfl, y12, y13, rfl, rfl⟩
        rw [← hmap]
        simp only [ev_var, ev_cint, ev_cstr, ev_cbl, ev_cnon, ev_g, ev_bin, ev_neg, ev_not, ev_cmp, ev_chn, ev_chn3, ev_dst, ev_revT, ev_stp, ev_lix, ev_err, ev_srt, ev_wlk, ev_lgn, lstO_ok, ev_gf, ev_isl, ev_fld, ev_mth, ev_msp, ev_prp, ev_oln, ev_con0, ev_con1, ev_cmt, ev_oeq, ev_isp, ev_ccn, okO_ok, ev_cav, ev_cpm, ev_and, ev_or, ev_ite, ev_tup, ev_lst, ev_call, ev_bi, ev_isi, ev_idx, ev_slc, ev_rev, ev_lrng, ev_lrng1, ev_dnew, ev_cpy, ev_comp, mkTup_ok, l_lens, l_len0, Nat.reduceLeDiff, Nat.reduceAdd, evs, evo, evi, bnd_ok, sbd_ok, pur_some, wpe_ok, wps_nx, wps_rt, b_add, b_sub, c_lt, c_le, c_gt, c_ge, c_eq, c_ne, c_in, c_nin, c_is, c_isnot, l_get0, l_gets, l_set0, l_sets, o_map, l_maps, l_map0, l_apps, l_app0, List.append_nil, if_true, le_size, fresh_f', e7, mkTup_ok (show [D.int 0, D.int (B.n - 1), D.int t].length ≤ 1000 by simp)]
      · rintro j x ρ s hx ⟨y12, y13, rfl, rfl⟩
        rw [List.getElem?_map] at hx
        obtain ⟨at_, hat, rfl⟩ := Option.map_eq_some_iff.mp hx
        obtain ⟨q0, q1⟩ := hxi at_ (List.mem_of_getElem? hat)
        refine ⟨_, rfl, ?_⟩
        obtain ⟨be, b0, b1⟩ := bk_item more A F q0 (by rw [← nB]; exact q1)
        rw [← hAB] at be
        obtain ⟨pg, hpg⟩ : ∃ pg, pg = B.item F at_ := ⟨_, rfl⟩
        have pA : ∀ s, cal GG (n + 6) i_page_at [jD m ws, .int F, .int (bk more A.n at_)] s = some (.ok (.int pg) s) := fun s => by
          have := page_at_ok (n := n + 1) (k := F) (i := bk more A.n at_) (s := s) jj f0 fl b0 (by rw [← hA]; exact b1)
          rw [← hA, ← be, ← hpg] at this
          exact this
        have pB : ∀ s, cal GG (n + 6) i_page_at [jD m W, .int F, .int at_] s = some (.ok (.int pg) s) := fun s => by
          have := page_at_ok (n := n + 1) (k := F) (i := at_) (s := s) jW f0 fl q0 (by rw [← hB]; exact q1)
          rw [← hB, ← hpg] at this
          exact this
        refine wps_seq (wps_set ?_)
        simp only [ev_var, ev_cint, ev_cstr, ev_cbl, ev_cnon, ev_g, ev_bin, ev_neg, ev_not, ev_cmp, ev_chn, ev_chn3, ev_dst, ev_revT, ev_stp, ev_lix, ev_err, ev_srt, ev_wlk, ev_lgn, lstO_ok, ev_gf, ev_isl, ev_fld, ev_mth, ev_msp, ev_prp, ev_oln, ev_con0, ev_con1, ev_cmt, ev_oeq, ev_isp, ev_ccn, okO_ok, ev_cav, ev_cpm, ev_and, ev_or, ev_ite, ev_tup, ev_lst, ev_call, ev_bi, ev_isi, ev_idx, ev_slc, ev_rev, ev_lrng, ev_lrng1, ev_dnew, ev_cpy, ev_comp, mkTup_ok, l_lens, l_len0, Nat.reduceLeDiff, Nat.reduceAdd, evs, evo, evi, bnd_ok, sbd_ok, pur_some, wpe_ok, wps_nx, wps_rt, b_add, b_sub, c_lt, c_le, c_gt, c_ge, c_eq, c_ne, c_in, c_nin, c_is, c_isnot, l_get0, l_gets, l_set0, l_sets, o_map, l_maps, l_map0, l_apps, l_app0, List.append_nil, if_true, le_size, fresh_f', back, i1, pA]
        refine wps_seq (wps_if (b := false) (WPE.of_eq ?_) (fun z => absurd z (by decide)) fun _ => ?_)
        · by_cases w : 0 < pg
          · have e1 : pg = B.f + B.s * at_ ∧ pg ≤ F := by
              rw [hpg] at w ⊢
              unfold Sp.item at w ⊢
              split
              · rename_i hh
                exact ⟨rfl, hh.2⟩
              · rename_i hh
                rw [if_neg hh] at w
                omega
            have pl : ∀ s, cal GG (n + 6) i_place_of [jD m W, .int F, .int pg] s = some (.ok (.int at_) s) := fun s => by
              have := place_of_ok (n := n + 1) (k := F) (page := pg) (s := s) jW fl (by omega) e1.2
              rw [← hB, e1.1, indexD_at okB.s0 q0 q1, ← e1.1] at this
              exact this
            simp only [ev_var, ev_cint, ev_cstr, ev_cbl, ev_cnon, ev_g, ev_bin, ev_neg, ev_not, ev_cmp, ev_chn, ev_chn3, ev_dst, ev_revT, ev_stp, ev_lix, ev_err, ev_srt, ev_wlk, ev_lgn, lstO_ok, ev_gf, ev_isl, ev_fld, ev_mth, ev_msp, ev_prp, ev_oln, ev_con0, ev_con1, ev_cmt, ev_oeq, ev_isp, ev_ccn, okO_ok, ev_cav, ev_cpm, ev_and, ev_or, ev_ite, ev_tup, ev_lst, ev_call, ev_bi, ev_isi, ev_idx, ev_slc, ev_rev, ev_lrng, ev_lrng1, ev_dnew, ev_cpy, ev_comp, mkTup_ok, l_lens, l_len0, Nat.reduceLeDiff, Nat.reduceAdd, evs, evo, evi, bnd_ok, sbd_ok, pur_some, wpe_ok, wps_nx, wps_rt, b_add, b_sub, c_lt, c_le, c_gt, c_ge, c_eq, c_ne, c_in, c_nin, c_is, c_isnot, l_get0, l_gets, l_set0, l_sets, o_map, l_maps, l_map0, l_apps, l_app0, List.append_nil, if_true, le_size, fresh_f', pB, eq_i, decide_true, Bool.not_true, decide_eq_true w, pl]
          · simp only [ev_var, ev_cint, ev_cstr, ev_cbl, ev_cnon, ev_g, ev_bin, ev_neg, ev_not, ev_cmp, ev_chn, ev_chn3, ev_dst, ev_revT, ev_stp, ev_lix, ev_err, ev_srt, ev_wlk, ev_lgn, lstO_ok, ev_gf, ev_isl, ev_fld, ev_mth, ev_msp, ev_prp, ev_oln, ev_con0, ev_con1, ev_cmt, ev_oeq, ev_isp, ev_ccn, okO_ok, ev_cav, ev_cpm, ev_and, ev_or, ev_ite, ev_tup, ev_lst, ev_call, ev_bi, ev_isi, ev_idx, ev_slc, ev_rev, ev_lrng, ev_lrng1, ev_dnew, ev_cpy, ev_comp, mkTup_ok, l_lens, l_len0, Nat.reduceLeDiff, Nat.reduceAdd, evs, evo, evi, bnd_ok, sbd_ok, pur_some, wpe_ok, wps_nx, wps_rt, b_add, b_sub, c_lt, c_le, c_gt, c_ge, c_eq, c_ne, c_in, c_nin, c_is, c_isnot, l_get0, l_gets, l_set0, l_sets, o_map, l_maps, l_map0, l_apps, l_app0, List.append_nil, if_true, le_size, fresh_f', pB, eq_i, decide_true, Bool.not_true, decide_eq_false w]
        exact wps_skip (wps_skip ⟨_, _, rfl, rfl⟩)
      · rintro ρ s ⟨y12, y13, rfl, rfl⟩
        exact wps_skip (wps_skip ⟨_, _, _, _, _, _, _, _, _, _, _, _, _, rfl, k7.bag⟩)
    · exact wps_skip (wps_skip ⟨_, _, _, _, _, _, _, _, _, _, _, _, _, rfl, k6.bag⟩)
  · rintro ρ s ⟨y1, y2, y3, y4, y5, y6, y7, y8, y9, y10, y11, y12, y13, rfl, hb⟩
    have p1 : ∀ s, cal GG (n + 6) i_row [.tup [.int 1, .tup [.str "odds", .str "turn", .str "rest"]], .int 9] s = some (.ok (.lst [.int 3, .int 1]) s) := fun s => by
      have := row_ok (n := n + 1) (m := 1) (ws := [.odds, .turn, .rest]) (k := 9) (s := s) ⟨.inl rfl, by decide⟩ (by decide) (by decide)
      have e : rowOf 1 [.odds, .turn, .rest] 9 = [3, 1] := by decide
      rw [e] at this
      exact this
    have p2 : ∀ s, cal GG (n + 6) i_page_at [.tup [.int 1, .tup [.str "evens", .str "turn"]], .int 1000000, .int 1] s = some (.ok (.int 999998) s) := fun s => by
      have := page_at_ok (n := n + 1) (m := 1) (ws := [.evens, .turn]) (k := 1000000) (i := 1) (s := s) ⟨.inl rfl, by decide⟩ (by decide) (by decide) (by decide) (by decide)
      have e : (spanOf 1 [.evens, .turn] 1000000).item 1000000 1 = 999998 := by decide
      rw [e] at this
      exact this
    refine (tail_ok (cal GG (n + 6)) p1 p2 _ s).mono (fun _ _ h => h.elim) fun r s1 h => ?_
    subst h
    exact WPE.mk (fin_keep rfl rfl) rfl
end EV

set_option maxHeartbeats 0
/-! the head, printed by gen.py -/
namespace EV
open PySem PySem.Spec PyProof.Rows L2
def topS (i : Nat) : Stmt := PySem.Challenge.pw_printjobs_k16_whole_words_in_two_parts.main.body.getD i (.Pass ⟨0, 0, 0, 0⟩)
abbrev N_law : List Str := [("script" : Str), ("bag" : Str), ("whole" : Str), ("count" : Str), ("items" : Str), ("word" : Str), ("pile" : Str), ("far" : Str), ("first" : Str), ("size" : Str), ("job" : Str), ("more" : Str), ("at" : Str), ("page" : Str)]
abbrev P_law : List Str := [("script" : Str)]
theorem sc_law : FnScope N_law P_law (defScope (topS 42)) := ⟨rfl, rfl, rfl, by decide +kernel, rfl, by decide +kernel, by decide +kernel⟩
theorem ch_law : chkB (tbAt nmL GG "law") txX N_law F_law.body (defScope (topS 42)) (defBody (topS 42)) = true := by decide +kernel
abbrev N_page_at : List Str := [("job" : Str), ("pages" : Str), ("index" : Str), ("span" : Str)]
abbrev P_page_at : List Str := [("job" : Str), ("pages" : Str), ("index" : Str)]
theorem sc_page_at : FnScope N_page_at P_page_at (defScope (topS 26)) := ⟨rfl, rfl, rfl, by decide +kernel, rfl, by decide +kernel, by decide +kernel⟩
theorem ch_page_at : chkB (tbAt nmL GG "page_at") txX N_page_at F_page_at.body (defScope (topS 26)) (defBody (topS 26)) = true := by decide +kernel
abbrev N_row : List Str := [("job" : Str), ("pages" : Str)]
abbrev P_row : List Str := [("job" : Str), ("pages" : Str)]
theorem sc_row : FnScope N_row P_row (defScope (topS 23)) := ⟨rfl, rfl, rfl, by decide +kernel, rfl, by decide +kernel, by decide +kernel⟩
theorem ch_row : chkB (tbAt nmL GG "row") txX N_row F_row.body (defScope (topS 23)) (defBody (topS 23)) = true := by decide +kernel
abbrev N_l_bags : List Str := [("script" : Str), ("limit" : Str), ("k" : Str)]
abbrev P_l_bags : List Str := [("script" : Str), ("limit" : Str)]
theorem sc_l_bags : FnScope N_l_bags P_l_bags (defScope (topS 35)) := ⟨rfl, rfl, rfl, by decide +kernel, rfl, by decide +kernel, by decide +kernel⟩
theorem ch_l_bags : chkB (tbAt nmL GG "_law_bags") txX N_l_bags F_l_bags.body (defScope (topS 35)) (defBody (topS 35)) = true := by decide +kernel
abbrev N_l_take : List Str := [("bag" : Str), ("many" : Str)]
abbrev P_l_take : List Str := [("bag" : Str), ("many" : Str)]
theorem sc_l_take : FnScope N_l_take P_l_take (defScope (topS 36)) := ⟨rfl, rfl, rfl, by decide +kernel, rfl, by decide +kernel, by decide +kernel⟩
theorem ch_l_take : chkB (tbAt nmL GG "_law_take") txX N_l_take F_l_take.body (defScope (topS 36)) (defBody (topS 36)) = true := by decide +kernel
abbrev N_place_of : List Str := [("job" : Str), ("pages" : Str), ("page" : Str)]
abbrev P_place_of : List Str := [("job" : Str), ("pages" : Str), ("page" : Str)]
theorem sc_place_of : FnScope N_place_of P_place_of (defScope (topS 28)) := ⟨rfl, rfl, rfl, by decide +kernel, rfl, by decide +kernel, by decide +kernel⟩
theorem ch_place_of : chkB (tbAt nmL GG "place_of") txX N_place_of F_place_of.body (defScope (topS 28)) (defBody (topS 28)) = true := by decide +kernel
abbrev N_l_back : List Str := [("words" : Str), ("size" : Str), ("at" : Str), ("sizes" : Str), ("word" : Str), ("k" : Str)]
abbrev P_l_back : List Str := [("words" : Str), ("size" : Str), ("at" : Str)]
theorem sc_l_back : FnScope N_l_back P_l_back (defScope (topS 41)) := ⟨rfl, rfl, rfl, by decide +kernel, rfl, by decide +kernel, by decide +kernel⟩
theorem ch_l_back : chkB (tbAt nmL GG "_law_back") txX N_l_back F_l_back.body (defScope (topS 41)) (defBody (topS 41)) = true := by decide +kernel
abbrev N_length : List Str := [("job" : Str), ("pages" : Str)]
abbrev P_length : List Str := [("job" : Str), ("pages" : Str)]
theorem sc_length : FnScope N_length P_length (defScope (topS 25)) := ⟨rfl, rfl, rfl, by decide +kernel, rfl, by decide +kernel, by decide +kernel⟩
theorem ch_length : chkB (tbAt nmL GG "length") txX N_length F_length.body (defScope (topS 25)) (defBody (topS 25)) = true := by decide +kernel
abbrev N_l_far_draw : List Str := [("bag" : Str), ("many" : Str), ("found" : Str), ("much" : Str)]
abbrev P_l_far_draw : List Str := [("bag" : Str), ("many" : Str)]
theorem sc_l_far_draw : FnScope N_l_far_draw P_l_far_draw (defScope (topS 37)) := ⟨rfl, rfl, rfl, by decide +kernel, rfl, by decide +kernel, by decide +kernel⟩
theorem ch_l_far_draw : chkB (tbAt nmL GG "_law_far_draw") txX N_l_far_draw F_l_far_draw.body (defScope (topS 37)) (defBody (topS 37)) = true := by decide +kernel
abbrev N_walk : List Str := [("job" : Str), ("pages" : Str), ("span" : Str), ("index" : Str)]
abbrev P_walk : List Str := [("job" : Str), ("pages" : Str)]
theorem sc_walk : GScope N_walk P_walk (defScope (topS 24)) := ⟨rfl, rfl, rfl, by decide +kernel, rfl, by decide +kernel, by decide +kernel⟩
theorem ch_walk : chkG (tbOf nmL GG) N_walk F_walk.body (defScope (topS 24)) (defBody (topS 24)) = true := by decide +kernel
abbrev N_l_after : List Str := [("items" : Str), ("word" : Str), ("middle" : Str)]
abbrev P_l_after : List Str := [("items" : Str), ("word" : Str)]
theorem sc_l_after : FnScope N_l_after P_l_after (defScope (topS 40)) := ⟨rfl, rfl, rfl, by decide +kernel, rfl, by decide +kernel, by decide +kernel⟩
theorem ch_l_after : chkB (tbAt nmL GG "_law_after") txX N_l_after F_l_after.body (defScope (topS 40)) (defBody (topS 40)) = true := by decide +kernel
abbrev N_l_job : List Str := [("bag" : Str), ("most" : Str)]
abbrev P_l_job : List Str := [("bag" : Str), ("most" : Str)]
theorem sc_l_job : FnScope N_l_job P_l_job (defScope (topS 39)) := ⟨rfl, rfl, rfl, by decide +kernel, rfl, by decide +kernel, by decide +kernel⟩
theorem ch_l_job : chkB (tbAt nmL GG "_law_job") txX N_l_job F_l_job.body (defScope (topS 39)) (defBody (topS 39)) = true := by decide +kernel
abbrev N_l_words : List Str := [("bag" : Str), ("most" : Str), ("words" : Str), ("some" : Str), ("found" : Str), ("turn" : Str), ("word" : Str)]
abbrev P_l_words : List Str := [("bag" : Str), ("most" : Str)]
theorem sc_l_words : FnScope N_l_words P_l_words (defScope (topS 38)) := ⟨rfl, rfl, rfl, by decide +kernel, rfl, by decide +kernel, by decide +kernel⟩
theorem ch_l_words : chkB (tbAt nmL GG "_law_words") txX N_l_words F_l_words.body (defScope (topS 38)) (defBody (topS 38)) = true := by decide +kernel
abbrev N_item_of : List Str := [("span" : Str), ("pages" : Str), ("index" : Str), ("first" : Str), ("step" : Str), ("items" : Str), ("page" : Str)]
abbrev P_item_of : List Str := [("span" : Str), ("pages" : Str), ("index" : Str)]
theorem sc_item_of : FnScope N_item_of P_item_of (defScope (topS 21)) := ⟨rfl, rfl, rfl, by decide +kernel, rfl, by decide +kernel, by decide +kernel⟩
theorem ch_item_of : chkB (tbAt nmL GG "item_of") txX N_item_of F_item_of.body (defScope (topS 21)) (defBody (topS 21)) = true := by decide +kernel
abbrev N_is_integer : List Str := [("value" : Str), ("low" : Str), ("high" : Str)]
abbrev P_is_integer : List Str := [("value" : Str), ("low" : Str), ("high" : Str)]
theorem sc_is_integer : FnScope N_is_integer P_is_integer (defScope (topS 12)) := ⟨rfl, rfl, rfl, by decide +kernel, rfl, by decide +kernel, by decide +kernel⟩
theorem ch_is_integer : chkB (tbAt nmL GG "is_integer") txX N_is_integer F_is_integer.body (defScope (topS 12)) (defBody (topS 12)) = true := by decide +kernel
abbrev N_span_of : List Str := [("job" : Str), ("pages" : Str), ("span" : Str), ("word" : Str)]
abbrev P_span_of : List Str := [("job" : Str), ("pages" : Str)]
theorem sc_span_of : FnScope N_span_of P_span_of (defScope (topS 20)) := ⟨rfl, rfl, rfl, by decide +kernel, rfl, by decide +kernel, by decide +kernel⟩
theorem ch_span_of : chkB (tbAt nmL GG "span_of") txX N_span_of F_span_of.body (defScope (topS 20)) (defBody (topS 20)) = true := by decide +kernel
abbrev N_need_pages : List Str := [("value" : Str), ("most" : Str)]
abbrev P_need_pages : List Str := [("value" : Str), ("most" : Str)]
theorem sc_need_pages : FnScope N_need_pages P_need_pages (defScope (topS 17)) := ⟨rfl, rfl, rfl, by decide +kernel, rfl, by decide +kernel, by decide +kernel⟩
theorem ch_need_pages : chkB (tbAt nmL GG "need_pages") txX N_need_pages F_need_pages.body (defScope (topS 17)) (defBody (topS 17)) = true := by decide +kernel
abbrev N_need_job : List Str := [("value" : Str)]
abbrev P_need_job : List Str := [("value" : Str)]
theorem sc_need_job : FnScope N_need_job P_need_job (defScope (topS 16)) := ⟨rfl, rfl, rfl, by decide +kernel, rfl, by decide +kernel, by decide +kernel⟩
theorem ch_need_job : chkB (tbAt nmL GG "need_job") txX N_need_job F_need_job.body (defScope (topS 16)) (defBody (topS 16)) = true := by decide +kernel
abbrev N_items_of : List Str := [("span" : Str), ("pages" : Str), ("index" : Str)]
abbrev P_items_of : List Str := [("span" : Str), ("pages" : Str)]
theorem sc_items_of : FnScope N_items_of P_items_of (defScope (topS 22)) := ⟨rfl, rfl, rfl, by decide +kernel, rfl, by decide +kernel, by decide +kernel⟩
theorem ch_items_of : chkB (tbAt nmL GG "items_of") txX N_items_of F_items_of.body (defScope (topS 22)) (defBody (topS 22)) = true := by decide +kernel
abbrev N_l_bag : List Str := [("script" : Str), ("k" : Str)]
abbrev P_l_bag : List Str := [("script" : Str), ("k" : Str)]
theorem sc_l_bag : FnScope N_l_bag P_l_bag (defScope (topS 34)) := ⟨rfl, rfl, rfl, by decide +kernel, rfl, by decide +kernel, by decide +kernel⟩
theorem ch_l_bag : chkB (tbAt nmL GG "_law_bag") txX N_l_bag F_l_bag.body (defScope (topS 34)) (defBody (topS 34)) = true := by decide +kernel
abbrev N_index_of : List Str := [("span" : Str), ("page" : Str), ("first" : Str), ("step" : Str), ("items" : Str), ("index" : Str)]
abbrev P_index_of : List Str := [("span" : Str), ("page" : Str)]
theorem sc_index_of : FnScope N_index_of P_index_of (defScope (topS 27)) := ⟨rfl, rfl, rfl, by decide +kernel, rfl, by decide +kernel, by decide +kernel⟩
theorem ch_index_of : chkB (tbAt nmL GG "index_of") txX N_index_of F_index_of.body (defScope (topS 27)) (defBody (topS 27)) = true := by decide +kernel
abbrev N_after_word : List Str := [("span" : Str), ("word" : Str), ("first" : Str), ("step" : Str), ("items" : Str)]
abbrev P_after_word : List Str := [("span" : Str), ("word" : Str)]
theorem sc_after_word : FnScope N_after_word P_after_word (defScope (topS 18)) := ⟨rfl, rfl, rfl, by decide +kernel, rfl, by decide +kernel, by decide +kernel⟩
theorem ch_after_word : chkB (tbAt nmL GG "after_word") txX N_after_word F_after_word.body (defScope (topS 18)) (defBody (topS 18)) = true := by decide +kernel
abbrev N_is_word : List Str := [("value" : Str)]
abbrev P_is_word : List Str := [("value" : Str)]
theorem sc_is_word : FnScope N_is_word P_is_word (defScope (topS 14)) := ⟨rfl, rfl, rfl, by decide +kernel, rfl, by decide +kernel, by decide +kernel⟩
theorem ch_is_word : chkB (tbAt nmL GG "is_word") txX N_is_word F_is_word.body (defScope (topS 14)) (defBody (topS 14)) = true := by decide +kernel
abbrev N_rounded : List Str := [("multiple" : Str), ("pages" : Str)]
abbrev P_rounded : List Str := [("multiple" : Str), ("pages" : Str)]
theorem sc_rounded : FnScope N_rounded P_rounded (defScope (topS 19)) := ⟨rfl, rfl, rfl, by decide +kernel, rfl, by decide +kernel, by decide +kernel⟩
theorem ch_rounded : chkB (tbAt nmL GG "rounded") txX N_rounded F_rounded.body (defScope (topS 19)) (defBody (topS 19)) = true := by decide +kernel
abbrev N_is_job : List Str := [("value" : Str), ("word" : Str)]
abbrev P_is_job : List Str := [("value" : Str)]
theorem sc_is_job : FnScope N_is_job P_is_job (defScope (topS 15)) := ⟨rfl, rfl, rfl, by decide +kernel, rfl, by decide +kernel, by decide +kernel⟩
theorem ch_is_job : chkB (tbAt nmL GG "is_job") txX N_is_job F_is_job.body (defScope (topS 15)) (defBody (topS 15)) = true := by decide +kernel
abbrev N_l_draws : List Str := [("cell" : Str), ("many" : Str), ("size" : Str), ("found" : Str), ("rest" : Str), ("stirred" : Str), ("k" : Str)]
abbrev P_l_draws : List Str := [("cell" : Str), ("many" : Str), ("size" : Str)]
theorem sc_l_draws : FnScope N_l_draws P_l_draws (defScope (topS 33)) := ⟨rfl, rfl, rfl, by decide +kernel, rfl, by decide +kernel, by decide +kernel⟩
theorem ch_l_draws : chkB (tbAt nmL GG "_law_draws") txX N_l_draws F_l_draws.body (defScope (topS 33)) (defBody (topS 33)) = true := by decide +kernel
abbrev N_l_cell_at : List Str := [("script" : Str), ("k" : Str)]
abbrev P_l_cell_at : List Str := [("script" : Str), ("k" : Str)]
theorem sc_l_cell_at : FnScope N_l_cell_at P_l_cell_at (defScope (topS 32)) := ⟨rfl, rfl, rfl, by decide +kernel, rfl, by decide +kernel, by decide +kernel⟩
theorem ch_l_cell_at : chkB (tbAt nmL GG "_law_cell_at") txX N_l_cell_at F_l_cell_at.body (defScope (topS 32)) (defBody (topS 32)) = true := by decide +kernel
abbrev N_is_multiple : List Str := [("value" : Str)]
abbrev P_is_multiple : List Str := [("value" : Str)]
theorem sc_is_multiple : FnScope N_is_multiple P_is_multiple (defScope (topS 13)) := ⟨rfl, rfl, rfl, by decide +kernel, rfl, by decide +kernel, by decide +kernel⟩
theorem ch_is_multiple : chkB (tbAt nmL GG "is_multiple") txX N_is_multiple F_is_multiple.body (defScope (topS 13)) (defBody (topS 13)) = true := by decide +kernel
def memS (j : Nat) : Stmt := (clsBody (topS 30)).getD j (.Pass ⟨0, 0, 0, 0⟩)
abbrev N_m_len : List Str := [("self" : Str)]
abbrev P_m_len : List Str := [("self" : Str)]
theorem sc_m_len : FnScope N_m_len P_m_len (defScope (memS 7)) := ⟨rfl, rfl, rfl, by decide +kernel, rfl, by decide +kernel, by decide +kernel⟩
theorem ch_m_len : chkB (tbOf nmL GG) txX N_m_len F_m_len.body (defScope (memS 7)) (defBody (memS 7)) = true := by decide +kernel
abbrev N_m_words : List Str := [("self" : Str)]
abbrev P_m_words : List Str := [("self" : Str)]
theorem sc_m_words : FnScope N_m_words P_m_words (defScope (memS 6)) := ⟨rfl, rfl, rfl, by decide +kernel, rfl, by decide +kernel, by decide +kernel⟩
theorem ch_m_words : chkB (tbOf nmL GG) txX N_m_words F_m_words.body (defScope (memS 6)) (defBody (memS 6)) = true := by decide +kernel
abbrev N_m_row : List Str := [("self" : Str)]
abbrev P_m_row : List Str := [("self" : Str)]
theorem sc_m_row : FnScope N_m_row P_m_row (defScope (memS 5)) := ⟨rfl, rfl, rfl, by decide +kernel, rfl, by decide +kernel, by decide +kernel⟩
theorem ch_m_row : chkB (tbOf nmL GG) txX N_m_row F_m_row.body (defScope (memS 5)) (defBody (memS 5)) = true := by decide +kernel
abbrev N_m_apply : List Str := [("self" : Str), ("words" : Str), ("before" : Str), ("span" : Str), ("word" : Str)]
abbrev P_m_apply : List Str := [("self" : Str), ("words" : Str)]
theorem sc_m_apply : FnScope N_m_apply P_m_apply (defScope (memS 3)) := ⟨rfl, rfl, rfl, by decide +kernel, rfl, by decide +kernel, by decide +kernel⟩
theorem ch_m_apply : chkB (tbOf nmL GG) txX N_m_apply F_m_apply.body (defScope (memS 3)) (defBody (memS 3)) = true := by decide +kernel
abbrev N_m_after : List Str := [("cls" : Str), ("job" : Str), ("pages" : Str), ("found" : Str), ("words" : Str)]
abbrev P_m_after : List Str := [("cls" : Str), ("job" : Str), ("pages" : Str)]
theorem sc_m_after : FnScope N_m_after P_m_after (defScope (memS 2)) := ⟨rfl, rfl, rfl, by decide +kernel, rfl, by decide +kernel, by decide +kernel⟩
theorem ch_m_after : chkB (tbOf nmL GG) txX N_m_after F_m_after.body (defScope (memS 2)) (defBody (memS 2)) = true := by decide +kernel
abbrev N_m_init : List Str := [("self" : Str), ("pages" : Str), ("multiple" : Str)]
abbrev P_m_init : List Str := [("self" : Str), ("pages" : Str), ("multiple" : Str)]
theorem sc_m_init : FnScope N_m_init P_m_init (defScope (memS 1)) := ⟨rfl, rfl, rfl, by decide +kernel, rfl, by decide +kernel, by decide +kernel⟩
theorem ch_m_init : chkB (tbOf nmL GG) txX N_m_init F_m_init.body (defScope (memS 1)) (defBody (memS 1)) = true := by decide +kernel
def hda : List He5.DefA := [mkA 0 "__len__" (memS 7) [], mkA 1 "words" (memS 6) [], mkA 1 "row" (memS 5) [], mkA 0 "apply" (memS 3) [], mkA 2 "after" (memS 2) [], mkA 3 "__init__" (memS 1) [(("multiple" : Str), .int 1)]]
def hfa : List He.Fa := [.glo "law", .glo "page_at", .glo "row", .glo "_law_bags", .glo "_law_take", .glo "place_of", .glo "_law_back", .glo "length", .glo "_law_far_draw", .glo "walk", .glo "_law_after", .glo "_law_job", .glo "_law_words", .glo "item_of", .glo "is_integer", .glo "span_of", .glo "need_pages", .glo "need_job", .glo "items_of", .glo "_law_bag", .glo "index_of", .glo "after_word", .glo "is_word", .glo "rounded", .glo "is_job", .glo "_law_draws", .glo "_law_cell_at", .glo "is_multiple", .glo "Pile", .int "SHORT" 300, .glo "WORDS", .glo "MULTIPLES", .free "len", .free "int", .free "max", .free "min", .free "sum", .free "all", .free "list", .free "tuple", .free "repr", .free "range", .free "isinstance", .free "bool", .free "str", .free "enumerate", .free "zip", .free "set", .free "sorted", .glo "InvalidNumber", .glo "InvalidWord", .glo "InvalidPages", .glo "InvalidJob", .exc "InvalidNumber", .exc "InvalidWord", .exc "InvalidPages", .exc "InvalidJob"]
def hfn : List He.DefD := [mkD "law" (topS 42) [], mkD "page_at" (topS 26) [], mkD "row" (topS 23) [], mkD "_law_bags" (topS 35) [], mkD "_law_take" (topS 36) [], mkD "place_of" (topS 28) [], mkD "_law_back" (topS 41) [], mkD "length" (topS 25) [], mkD "_law_far_draw" (topS 37) [], mkD "walk" (topS 24) [], mkD "_law_after" (topS 40) [], mkD "_law_job" (topS 39) [], mkD "_law_words" (topS 38) [], mkD "item_of" (topS 21) [], mkD "is_integer" (topS 12) [], mkD "span_of" (topS 20) [], mkD "need_pages" (topS 17) [.int 1000000000000000], mkD "need_job" (topS 16) [], mkD "items_of" (topS 22) [], mkD "_law_bag" (topS 34) [], mkD "index_of" (topS 27) [], mkD "after_word" (topS 18) [], mkD "is_word" (topS 14) [], mkD "rounded" (topS 19) [], mkD "is_job" (topS 15) [], mkD "_law_draws" (topS 33) [], mkD "_law_cell_at" (topS 32) [], mkD "is_multiple" (topS 13) []]
def htb : Tp := [("WORDS", [(.str "cut"), (.str "evens"), (.str "half"), (.str "odds"), (.str "rest"), (.str "skip"), (.str "turn")].map dvD), ("MULTIPLES", [(.int 1), (.int 2), (.int 4), (.int 8)].map dvD)]
abbrev RR : PySem.W.OpenRow := PySem.W.OpenLaw.row PySem.Challenge.rw_printjobs_k16_whole_words_in_two_parts
def hec : List Str := []
abbrev hk : PySem.W.Hook := hookM 7 hfa htb hec hfn hda
def ob (s : PySem.W.SharedT) : AlP := obsMG 7 hfa htb hec hfn hda (HandSHeadRun.getT s)
theorem ob_eq (s : PySem.W.SharedT) : ob s = hk.obs s.abs := obsMG_eq (HandSHeadRun.getT_eq s)
def loose0 : List Str := [("_wall" : Str), ("PrintError" : Str), ("InvalidJob" : Str), ("InvalidPages" : Str), ("InvalidNumber" : Str), ("InvalidWord" : Str), ("WORDS" : Str), ("MULTIPLES" : Str), ("SHORT" : Str), ("LONG" : Str), ("is_integer" : Str), ("is_multiple" : Str), ("is_word" : Str), ("is_job" : Str), ("need_job" : Str), ("need_pages" : Str), ("after_word" : Str), ("rounded" : Str), ("span_of" : Str), ("item_of" : Str), ("items_of" : Str), ("row" : Str), ("walk" : Str), ("length" : Str), ("page_at" : Str), ("index_of" : Str), ("place_of" : Str), ("Pile" : Str), ("_law_cell_at" : Str), ("_law_draws" : Str)]
def loose1 : List Str := [("_law_bag" : Str), ("_law_bags" : Str), ("_law_take" : Str), ("_law_far_draw" : Str), ("_law_words" : Str), ("_law_job" : Str), ("_law_after" : Str), ("_law_back" : Str)]
def loose : List Str := loose0 ++ loose1
theorem run_ok (w : World) : HandSHeadRun.RunEq RR (PySem.W.view RR.prog [42]) hk ob 6000 loose w := by
  intro os
  kernel_rfl
section
variable {K : PySem.W.Frag} {mg : Str → Option Value} {h : Heap} {w : World}
def caX (K : PySem.W.Frag) : Nat → Addr := fun k => He.ga K (xnames.getD k ("" : Str))
theorem e_law (X : K.In h) (Gm : h.Ns mainGlobals mg) (c : SaysM hfa htb hec hfn hda w h K) : DFact K mg (tbAt nmL GG "law") txX "law" F_law [] := by
  obtain ⟨fd, FD⟩ := sm_dfn c 0 "law" (topS 42) [] rfl
  exact dfact_of FD (He.glo_ok X Gm (sm_fact c 0 (f := .glo "law") rfl)) sc_law rfl rfl ch_law fun _ _ _ _ _ _ us hl => match us, hl with | [_], _ => rfl
theorem e_page_at (X : K.In h) (Gm : h.Ns mainGlobals mg) (c : SaysM hfa htb hec hfn hda w h K) : DFact K mg (tbAt nmL GG "page_at") txX "page_at" F_page_at [] := by
  obtain ⟨fd, FD⟩ := sm_dfn c 1 "page_at" (topS 26) [] rfl
  exact dfact_of FD (He.glo_ok X Gm (sm_fact c 1 (f := .glo "page_at") rfl)) sc_page_at rfl rfl ch_page_at fun _ _ _ _ _ _ us hl => match us, hl with | [_, _, _], _ => rfl
theorem e_row (X : K.In h) (Gm : h.Ns mainGlobals mg) (c : SaysM hfa htb hec hfn hda w h K) : DFact K mg (tbAt nmL GG "row") txX "row" F_row [] := by
  obtain ⟨fd, FD⟩ := sm_dfn c 2 "row" (topS 23) [] rfl
  exact dfact_of FD (He.glo_ok X Gm (sm_fact c 2 (f := .glo "row") rfl)) sc_row rfl rfl ch_row fun _ _ _ _ _ _ us hl => match us, hl with | [_, _], _ => rfl
theorem e_l_bags (X : K.In h) (Gm : h.Ns mainGlobals mg) (c : SaysM hfa htb hec hfn hda w h K) : DFact K mg (tbAt nmL GG "_law_bags") txX "_law_bags" F_l_bags [] := by
  obtain ⟨fd, FD⟩ := sm_dfn c 3 "_law_bags" (topS 35) [] rfl
  exact dfact_of FD (He.glo_ok X Gm (sm_fact c 3 (f := .glo "_law_bags") rfl)) sc_l_bags rfl rfl ch_l_bags fun _ _ _ _ _ _ us hl => match us, hl with | [_, _], _ => rfl
theorem e_l_take (X : K.In h) (Gm : h.Ns mainGlobals mg) (c : SaysM hfa htb hec hfn hda w h K) : DFact K mg (tbAt nmL GG "_law_take") txX "_law_take" F_l_take [] := by
  obtain ⟨fd, FD⟩ := sm_dfn c 4 "_law_take" (topS 36) [] rfl
  exact dfact_of FD (He.glo_ok X Gm (sm_fact c 4 (f := .glo "_law_take") rfl)) sc_l_take rfl rfl ch_l_take fun _ _ _ _ _ _ us hl => match us, hl with | [_, _], _ => rfl
theorem e_place_of (X : K.In h) (Gm : h.Ns mainGlobals mg) (c : SaysM hfa htb hec hfn hda w h K) : DFact K mg (tbAt nmL GG "place_of") txX "place_of" F_place_of [] := by
  obtain ⟨fd, FD⟩ := sm_dfn c 5 "place_of" (topS 28) [] rfl
  exact dfact_of FD (He.glo_ok X Gm (sm_fact c 5 (f := .glo "place_of") rfl)) sc_place_of rfl rfl ch_place_of fun _ _ _ _ _ _ us hl => match us, hl with | [_, _, _], _ => rfl
theorem e_l_back (X : K.In h) (Gm : h.Ns mainGlobals mg) (c : SaysM hfa htb hec hfn hda w h K) : DFact K mg (tbAt nmL GG "_law_back") txX "_law_back" F_l_back [] := by
  obtain ⟨fd, FD⟩ := sm_dfn c 6 "_law_back" (topS 41) [] rfl
  exact dfact_of FD (He.glo_ok X Gm (sm_fact c 6 (f := .glo "_law_back") rfl)) sc_l_back rfl rfl ch_l_back fun _ _ _ _ _ _ us hl => match us, hl with | [_, _, _], _ => rfl
theorem e_length (X : K.In h) (Gm : h.Ns mainGlobals mg) (c : SaysM hfa htb hec hfn hda w h K) : DFact K mg (tbAt nmL GG "length") txX "length" F_length [] := by
  obtain ⟨fd, FD⟩ := sm_dfn c 7 "length" (topS 25) [] rfl
  exact dfact_of FD (He.glo_ok X Gm (sm_fact c 7 (f := .glo "length") rfl)) sc_length rfl rfl ch_length fun _ _ _ _ _ _ us hl => match us, hl with | [_, _], _ => rfl
theorem e_l_far_draw (X : K.In h) (Gm : h.Ns mainGlobals mg) (c : SaysM hfa htb hec hfn hda w h K) : DFact K mg (tbAt nmL GG "_law_far_draw") txX "_law_far_draw" F_l_far_draw [] := by
  obtain ⟨fd, FD⟩ := sm_dfn c 8 "_law_far_draw" (topS 37) [] rfl
  exact dfact_of FD (He.glo_ok X Gm (sm_fact c 8 (f := .glo "_law_far_draw") rfl)) sc_l_far_draw rfl rfl ch_l_far_draw fun _ _ _ _ _ _ us hl => match us, hl with | [_, _], _ => rfl
theorem e_m_len (X : K.In h) (Gm : h.Ns mainGlobals mg) (c : SaysM hfa htb hec hfn hda w h K) : MFact K (tbOf nmL GG) txX "__len__" 0 F_m_len := by
  obtain ⟨fd, FD⟩ := sm_dm c 0 0 "__len__" (memS 7) rfl
  exact mfact_of FD (sm_mem c 0 (k := 0) rfl (by decide)) sc_m_len rfl rfl ch_m_len fun _ _ _ _ _ _ us hl => match us, hl with | [_], _ => rfl
theorem e_m_words (X : K.In h) (Gm : h.Ns mainGlobals mg) (c : SaysM hfa htb hec hfn hda w h K) : MFact K (tbOf nmL GG) txX "words" 1 F_m_words := by
  obtain ⟨fd, FD⟩ := sm_dm c 1 1 "words" (memS 6) rfl
  exact mfact_of FD (sm_mem c 1 (k := 1) rfl (by decide)) sc_m_words rfl rfl ch_m_words fun _ _ _ _ _ _ us hl => match us, hl with | [_], _ => rfl
theorem e_m_row (X : K.In h) (Gm : h.Ns mainGlobals mg) (c : SaysM hfa htb hec hfn hda w h K) : MFact K (tbOf nmL GG) txX "row" 1 F_m_row := by
  obtain ⟨fd, FD⟩ := sm_dm c 2 1 "row" (memS 5) rfl
  exact mfact_of FD (sm_mem c 2 (k := 1) rfl (by decide)) sc_m_row rfl rfl ch_m_row fun _ _ _ _ _ _ us hl => match us, hl with | [_], _ => rfl
theorem e_m_apply (X : K.In h) (Gm : h.Ns mainGlobals mg) (c : SaysM hfa htb hec hfn hda w h K) : MVFact K (tbOf nmL GG) txX "apply" F_m_apply 1 := by
  obtain ⟨fd, FD⟩ := sm_dm c 3 0 "apply" (memS 3) rfl
  exact mvfact_of (ps := [("self" : Str)]) (pv := "words") FD (sm_mem c 3 (k := 0) rfl (by decide)) sc_m_apply rfl rfl ch_m_apply fun _ _ _ _ _ _ us rest hl => match us, rest, hl with | [_], [], _ => rfl | [_], _ :: _, _ => rfl
theorem e_m_after (X : K.In h) (Gm : h.Ns mainGlobals mg) (c : SaysM hfa htb hec hfn hda w h K) : MFact K (tbOf nmL GG) txX "after" 2 F_m_after := by
  obtain ⟨fd, FD⟩ := sm_dm c 4 2 "after" (memS 2) rfl
  exact mfact_of FD (sm_mem c 4 (k := 2) rfl (by decide)) sc_m_after rfl rfl ch_m_after fun _ _ _ _ _ _ us hl => match us, hl with | [_, _, _], _ => rfl
theorem e_walk (X : K.In h) (Gm : h.Ns mainGlobals mg) (c : SaysM hfa htb hec hfn hda w h K) : GFact K mg (tbOf nmL GG) "walk" F_walk := by
  obtain ⟨fd, FD⟩ := sm_dfn c 9 "walk" (topS 24) [] rfl
  exact gfact_of FD (He.glo_ok X Gm (sm_fact c 9 (f := .glo "walk") rfl)) sc_walk rfl rfl rfl ch_walk fun _ _ _ _ _ _ us hl => match us, hl with | [_, _], _ => rfl
theorem e_l_after (X : K.In h) (Gm : h.Ns mainGlobals mg) (c : SaysM hfa htb hec hfn hda w h K) : DFact K mg (tbAt nmL GG "_law_after") txX "_law_after" F_l_after [] := by
  obtain ⟨fd, FD⟩ := sm_dfn c 10 "_law_after" (topS 40) [] rfl
  exact dfact_of FD (He.glo_ok X Gm (sm_fact c 10 (f := .glo "_law_after") rfl)) sc_l_after rfl rfl ch_l_after fun _ _ _ _ _ _ us hl => match us, hl with | [_, _], _ => rfl
theorem e_l_job (X : K.In h) (Gm : h.Ns mainGlobals mg) (c : SaysM hfa htb hec hfn hda w h K) : DFact K mg (tbAt nmL GG "_law_job") txX "_law_job" F_l_job [] := by
  obtain ⟨fd, FD⟩ := sm_dfn c 11 "_law_job" (topS 39) [] rfl
  exact dfact_of FD (He.glo_ok X Gm (sm_fact c 11 (f := .glo "_law_job") rfl)) sc_l_job rfl rfl ch_l_job fun _ _ _ _ _ _ us hl => match us, hl with | [_, _], _ => rfl
theorem e_l_words (X : K.In h) (Gm : h.Ns mainGlobals mg) (c : SaysM hfa htb hec hfn hda w h K) : DFact K mg (tbAt nmL GG "_law_words") txX "_law_words" F_l_words [] := by
  obtain ⟨fd, FD⟩ := sm_dfn c 12 "_law_words" (topS 38) [] rfl
  exact dfact_of FD (He.glo_ok X Gm (sm_fact c 12 (f := .glo "_law_words") rfl)) sc_l_words rfl rfl ch_l_words fun _ _ _ _ _ _ us hl => match us, hl with | [_, _], _ => rfl
theorem e_item_of (X : K.In h) (Gm : h.Ns mainGlobals mg) (c : SaysM hfa htb hec hfn hda w h K) : DFact K mg (tbAt nmL GG "item_of") txX "item_of" F_item_of [] := by
  obtain ⟨fd, FD⟩ := sm_dfn c 13 "item_of" (topS 21) [] rfl
  exact dfact_of FD (He.glo_ok X Gm (sm_fact c 13 (f := .glo "item_of") rfl)) sc_item_of rfl rfl ch_item_of fun _ _ _ _ _ _ us hl => match us, hl with | [_, _, _], _ => rfl
theorem e_is_integer (X : K.In h) (Gm : h.Ns mainGlobals mg) (c : SaysM hfa htb hec hfn hda w h K) : DFact K mg (tbAt nmL GG "is_integer") txX "is_integer" F_is_integer [] := by
  obtain ⟨fd, FD⟩ := sm_dfn c 14 "is_integer" (topS 12) [] rfl
  exact dfact_of FD (He.glo_ok X Gm (sm_fact c 14 (f := .glo "is_integer") rfl)) sc_is_integer rfl rfl ch_is_integer fun _ _ _ _ _ _ us hl => match us, hl with | [_, _, _], _ => rfl
theorem e_span_of (X : K.In h) (Gm : h.Ns mainGlobals mg) (c : SaysM hfa htb hec hfn hda w h K) : DFact K mg (tbAt nmL GG "span_of") txX "span_of" F_span_of [] := by
  obtain ⟨fd, FD⟩ := sm_dfn c 15 "span_of" (topS 20) [] rfl
  exact dfact_of FD (He.glo_ok X Gm (sm_fact c 15 (f := .glo "span_of") rfl)) sc_span_of rfl rfl ch_span_of fun _ _ _ _ _ _ us hl => match us, hl with | [_, _], _ => rfl
theorem e_need_pages (X : K.In h) (Gm : h.Ns mainGlobals mg) (c : SaysM hfa htb hec hfn hda w h K) : DFact K mg (tbAt nmL GG "need_pages") txX "need_pages" F_need_pages [] := by
  obtain ⟨fd, FD⟩ := sm_dfn c 16 "need_pages" (topS 17) [.int 1000000000000000] rfl
  exact dfact_ofD (dvs := [V.int 1000000000000000]) (j := 1) FD (He.glo_ok X Gm (sm_fact c 16 (f := .glo "need_pages") rfl)) sc_need_pages rfl rfl ch_need_pages (FunD.binds1 FD 2 1 (by simp) rfl fun T kV doc pm an cdv ct us its hu hi => match us, its, hu, hi with | [_, _], [_], _, _ => ⟨_, rfl, rfl⟩) (fun m H => rds_flat (K := K) (m := m) (H := H) [] rfl)
theorem e_need_pages_1 (X : K.In h) (Gm : h.Ns mainGlobals mg) (c : SaysM hfa htb hec hfn hda w h K) : DFact K mg (tbAt nmL GG "need_pages") txX "need_pages" F_need_pages [(.int 1000000000000000)] := by
  obtain ⟨fd, FD⟩ := sm_dfn c 16 "need_pages" (topS 17) [.int 1000000000000000] rfl
  exact dfact_ofD (dvs := [V.int 1000000000000000]) (j := 0) FD (He.glo_ok X Gm (sm_fact c 16 (f := .glo "need_pages") rfl)) sc_need_pages rfl rfl ch_need_pages (FunD.binds1 FD 1 0 (by simp) rfl fun T kV doc pm an cdv ct us its hu hi => match us, its, hu, hi with | [_], [_], _, _ => ⟨_, rfl, rfl⟩) (fun m H => rds_flat (K := K) (m := m) (H := H) [(.int 1000000000000000)] rfl)
theorem e_need_job (X : K.In h) (Gm : h.Ns mainGlobals mg) (c : SaysM hfa htb hec hfn hda w h K) : DFact K mg (tbAt nmL GG "need_job") txX "need_job" F_need_job [] := by
  obtain ⟨fd, FD⟩ := sm_dfn c 17 "need_job" (topS 16) [] rfl
  exact dfact_of FD (He.glo_ok X Gm (sm_fact c 17 (f := .glo "need_job") rfl)) sc_need_job rfl rfl ch_need_job fun _ _ _ _ _ _ us hl => match us, hl with | [_], _ => rfl
theorem e_items_of (X : K.In h) (Gm : h.Ns mainGlobals mg) (c : SaysM hfa htb hec hfn hda w h K) : DFact K mg (tbAt nmL GG "items_of") txX "items_of" F_items_of [] := by
  obtain ⟨fd, FD⟩ := sm_dfn c 18 "items_of" (topS 22) [] rfl
  exact dfact_of FD (He.glo_ok X Gm (sm_fact c 18 (f := .glo "items_of") rfl)) sc_items_of rfl rfl ch_items_of fun _ _ _ _ _ _ us hl => match us, hl with | [_, _], _ => rfl
theorem e_l_bag (X : K.In h) (Gm : h.Ns mainGlobals mg) (c : SaysM hfa htb hec hfn hda w h K) : DFact K mg (tbAt nmL GG "_law_bag") txX "_law_bag" F_l_bag [] := by
  obtain ⟨fd, FD⟩ := sm_dfn c 19 "_law_bag" (topS 34) [] rfl
  exact dfact_of FD (He.glo_ok X Gm (sm_fact c 19 (f := .glo "_law_bag") rfl)) sc_l_bag rfl rfl ch_l_bag fun _ _ _ _ _ _ us hl => match us, hl with | [_, _], _ => rfl
theorem e_index_of (X : K.In h) (Gm : h.Ns mainGlobals mg) (c : SaysM hfa htb hec hfn hda w h K) : DFact K mg (tbAt nmL GG "index_of") txX "index_of" F_index_of [] := by
  obtain ⟨fd, FD⟩ := sm_dfn c 20 "index_of" (topS 27) [] rfl
  exact dfact_of FD (He.glo_ok X Gm (sm_fact c 20 (f := .glo "index_of") rfl)) sc_index_of rfl rfl ch_index_of fun _ _ _ _ _ _ us hl => match us, hl with | [_, _], _ => rfl
theorem e_after_word (X : K.In h) (Gm : h.Ns mainGlobals mg) (c : SaysM hfa htb hec hfn hda w h K) : DFact K mg (tbAt nmL GG "after_word") txX "after_word" F_after_word [] := by
  obtain ⟨fd, FD⟩ := sm_dfn c 21 "after_word" (topS 18) [] rfl
  exact dfact_of FD (He.glo_ok X Gm (sm_fact c 21 (f := .glo "after_word") rfl)) sc_after_word rfl rfl ch_after_word fun _ _ _ _ _ _ us hl => match us, hl with | [_, _], _ => rfl
theorem e_is_word (X : K.In h) (Gm : h.Ns mainGlobals mg) (c : SaysM hfa htb hec hfn hda w h K) : DFact K mg (tbAt nmL GG "is_word") txX "is_word" F_is_word [] := by
  obtain ⟨fd, FD⟩ := sm_dfn c 22 "is_word" (topS 14) [] rfl
  exact dfact_of FD (He.glo_ok X Gm (sm_fact c 22 (f := .glo "is_word") rfl)) sc_is_word rfl rfl ch_is_word fun _ _ _ _ _ _ us hl => match us, hl with | [_], _ => rfl
theorem e_m_init_2 (X : K.In h) (Gm : h.Ns mainGlobals mg) (c : SaysM hfa htb hec hfn hda w h K) : IFact K (tbOf nmL GG) txX true F_m_init [] := by
  obtain ⟨fd, FD⟩ := sm_di c 5 (memS 1) rfl
  obtain ⟨mv, b⟩ := FD.kbinds0 (ps := P_m_init) 2 ["multiple"] [] (fun us mv ws => us ++ (mv ++ ws)) (by simp) (fun q hq => by cases hq) (fun r1 r2 r3 => r1.append (r2.append r3)) (fun D doc pm an cdv ct us mv ws h1 h2 h3 => match us, mv, ws, h1, h2, h3 with | [_, _], [], [_], _, _, _ => rfl)
  exact ifact_of (w := true) (mV := []) FD (sm_mk c rfl) sc_m_init rfl rfl ch_m_init b (.inl ⟨rfl, rfl, rfl⟩)
theorem e_rounded (X : K.In h) (Gm : h.Ns mainGlobals mg) (c : SaysM hfa htb hec hfn hda w h K) : DFact K mg (tbAt nmL GG "rounded") txX "rounded" F_rounded [] := by
  obtain ⟨fd, FD⟩ := sm_dfn c 23 "rounded" (topS 19) [] rfl
  exact dfact_of FD (He.glo_ok X Gm (sm_fact c 23 (f := .glo "rounded") rfl)) sc_rounded rfl rfl ch_rounded fun _ _ _ _ _ _ us hl => match us, hl with | [_, _], _ => rfl
theorem e_is_job (X : K.In h) (Gm : h.Ns mainGlobals mg) (c : SaysM hfa htb hec hfn hda w h K) : DFact K mg (tbAt nmL GG "is_job") txX "is_job" F_is_job [] := by
  obtain ⟨fd, FD⟩ := sm_dfn c 24 "is_job" (topS 15) [] rfl
  exact dfact_of FD (He.glo_ok X Gm (sm_fact c 24 (f := .glo "is_job") rfl)) sc_is_job rfl rfl ch_is_job fun _ _ _ _ _ _ us hl => match us, hl with | [_], _ => rfl
theorem e_l_draws (X : K.In h) (Gm : h.Ns mainGlobals mg) (c : SaysM hfa htb hec hfn hda w h K) : DFact K mg (tbAt nmL GG "_law_draws") txX "_law_draws" F_l_draws [] := by
  obtain ⟨fd, FD⟩ := sm_dfn c 25 "_law_draws" (topS 33) [] rfl
  exact dfact_of FD (He.glo_ok X Gm (sm_fact c 25 (f := .glo "_law_draws") rfl)) sc_l_draws rfl rfl ch_l_draws fun _ _ _ _ _ _ us hl => match us, hl with | [_, _, _], _ => rfl
theorem e_l_cell_at (X : K.In h) (Gm : h.Ns mainGlobals mg) (c : SaysM hfa htb hec hfn hda w h K) : DFact K mg (tbAt nmL GG "_law_cell_at") txX "_law_cell_at" F_l_cell_at [] := by
  obtain ⟨fd, FD⟩ := sm_dfn c 26 "_law_cell_at" (topS 32) [] rfl
  exact dfact_of FD (He.glo_ok X Gm (sm_fact c 26 (f := .glo "_law_cell_at") rfl)) sc_l_cell_at rfl rfl ch_l_cell_at fun _ _ _ _ _ _ us hl => match us, hl with | [_, _], _ => rfl
theorem e_is_multiple (X : K.In h) (Gm : h.Ns mainGlobals mg) (c : SaysM hfa htb hec hfn hda w h K) : DFact K mg (tbAt nmL GG "is_multiple") txX "is_multiple" F_is_multiple [] := by
  obtain ⟨fd, FD⟩ := sm_dfn c 27 "is_multiple" (topS 13) [] rfl
  exact dfact_of FD (He.glo_ok X Gm (sm_fact c 27 (f := .glo "is_multiple") rfl)) sc_is_multiple rfl rfl ch_is_multiple fun _ _ _ _ _ _ us hl => match us, hl with | [_], _ => rfl
theorem whole_ok (X : K.In h) (Gm : h.Ns mainGlobals mg) (c : SaysM hfa htb hec hfn hda w h K) : Whole K mg nmL GG txX (caX K) := by
  refine whole_mk (es := ents) ?b ?a ?s ?x ?g ?p
  case b =>
    intro x hx
    have hb : ∀ y ∈ bltNames, (He.Fa.free y) ∈ hfa := by
      intro y hy
      simp only [bltNames, List.mem_cons, List.not_mem_nil, or_false] at hy
      rcases hy with rfl | rfl | rfl | rfl | rfl | rfl | rfl | rfl | rfl | rfl | rfl | rfl | rfl | rfl | rfl | rfl | rfl <;> (unfold hfa; simp)
    exact He.free_ok X Gm (c.t.d.facts (hb x hx))
  case a => exact ⟨e_law X Gm c,
    e_page_at X Gm c,
    e_row X Gm c,
    e_l_bags X Gm c,
    e_l_take X Gm c,
    e_place_of X Gm c,
    e_l_back X Gm c,
    e_length X Gm c,
    e_l_far_draw X Gm c,
    e_m_len X Gm c,
    e_m_words X Gm c,
    e_m_row X Gm c,
    e_m_apply X Gm c,
    e_m_after X Gm c,
    e_walk X Gm c,
    e_l_after X Gm c,
    e_l_job X Gm c,
    e_l_words X Gm c,
    e_item_of X Gm c,
    e_is_integer X Gm c,
    e_span_of X Gm c,
    e_need_pages X Gm c,
    e_need_pages_1 X Gm c,
    e_need_job X Gm c,
    e_items_of X Gm c,
    cfact_int (He.int_ok X Gm (sm_fact c 29 (f := .int "SHORT" 300) rfl)),
    e_l_bag X Gm c,
    e_index_of X Gm c,
    e_after_word X Gm c,
    e_is_word X Gm c,
    e_m_init_2 X Gm c,
    e_rounded X Gm c,
    e_is_job X Gm c,
    e_l_draws X Gm c,
    e_l_cell_at X Gm c,
    cfact_tup (He.glo_ok X Gm (sm_fact c 30 (f := .glo "WORDS") rfl)) (sm_tab c 0 rfl) rfl,
    e_is_multiple X Gm c,
    cfact_tup (He.glo_ok X Gm (sm_fact c 31 (f := .glo "MULTIPLES") rfl)) (sm_tab c 1 rfl) rfl, True.intro⟩
  case s => exact ⟨⟨i_law, rfl, rfl⟩, ⟨i_page_at, rfl, rfl⟩, ⟨i_row, rfl, rfl⟩, ⟨i_l_bags, rfl, rfl⟩, ⟨i_l_take, rfl, rfl⟩, ⟨i_place_of, rfl, rfl⟩, ⟨i_l_back, rfl, rfl⟩, ⟨i_length, rfl, rfl⟩, ⟨i_l_far_draw, rfl, rfl⟩, True.intro, True.intro, True.intro, True.intro, True.intro, True.intro, ⟨i_l_after, rfl, rfl⟩, ⟨i_l_job, rfl, rfl⟩, ⟨i_l_words, rfl, rfl⟩, ⟨i_item_of, rfl, rfl⟩, ⟨i_is_integer, rfl, rfl⟩, ⟨i_span_of, rfl, rfl⟩, ⟨i_need_pages, rfl, rfl⟩, ⟨i_need_pages, rfl, rfl⟩, ⟨i_need_job, rfl, rfl⟩, ⟨i_items_of, rfl, rfl⟩, True.intro, ⟨i_l_bag, rfl, rfl⟩, ⟨i_index_of, rfl, rfl⟩, ⟨i_after_word, rfl, rfl⟩, ⟨i_is_word, rfl, rfl⟩, True.intro, ⟨i_rounded, rfl, rfl⟩, ⟨i_is_job, rfl, rfl⟩, ⟨i_l_draws, rfl, rfl⟩, ⟨i_l_cell_at, rfl, rfl⟩, True.intro, ⟨i_is_multiple, rfl, rfl⟩, True.intro, True.intro⟩
  case x =>
    intro k hk
    have hk : k < 4 := of_decide_eq_true hk
    match k, hk with
    | 0, _ => exact xfact_of rfl (He.glo_ok X Gm (sm_fact c 49 (f := .glo "InvalidNumber") rfl)) (sm_fact c 53 (f := .exc "InvalidNumber") rfl)
    | 1, _ => exact xfact_of rfl (He.glo_ok X Gm (sm_fact c 50 (f := .glo "InvalidWord") rfl)) (sm_fact c 54 (f := .exc "InvalidWord") rfl)
    | 2, _ => exact xfact_of rfl (He.glo_ok X Gm (sm_fact c 51 (f := .glo "InvalidPages") rfl)) (sm_fact c 55 (f := .exc "InvalidPages") rfl)
    | 3, _ => exact xfact_of rfl (He.glo_ok X Gm (sm_fact c 52 (f := .glo "InvalidJob") rfl)) (sm_fact c 56 (f := .exc "InvalidJob") rfl)
  case g =>
    intro q hq
    unfold gfs at hq
    exact absurd hq List.not_mem_nil
  case p => exact fun hp => sm_pileF c hp (He.glo_ok X Gm (sm_fact c 28 (f := .glo "Pile") rfl))
end
end EV
open PySem PySem.W PySem.Calls PyProof.Rows
theorem PySem.Challenge.cw_printjobs_k16_whole_words_in_two_parts_holds_of (n : Nat) (hn : L2.Room (n + 1) callerA) (main : ∀ ns : List Int, ns.length ≤ 63 → ∃ s, EV.cal EV.GG (n + 1) EV.i_law [.scr ns] [] = some (.ok (.bl true) s)) : PySem.Challenge.rw_printjobs_k16_whole_words_in_two_parts.Holds := by
  w_on; o_law
  refine HandSHeadRun.head_any (r := OpenLaw.row PySem.Challenge.rw_printjobs_k16_whole_words_in_two_parts) (q := view (OpenLaw.row PySem.Challenge.rw_printjobs_k16_whole_words_in_two_parts).prog [42]) (H := EV.hk) (ob := EV.ob) (M := 6000) (loose := EV.loose) (d := HandSHeadRun.topDef (OpenLaw.row PySem.Challenge.rw_printjobs_k16_whole_words_in_two_parts).prog 42) (kwd := []) EV.ob_eq
    (by kernel_rfl) (fun s => by kernel_rfl) EV.run_ok (by kernel_rfl) (by kernel_rfl) (by kernel_rfl) (by rfl) (by first | assumption | decide +kernel) (by decide +kernel) ⟨rfl, rfl, rfl, rfl, rfl, by decide +kernel⟩ ?hw ?hc
  case hw => w_witness2
  case hc =>
    refine LamX.walk_ofTsE (l := PySem.Challenge.rw_printjobs_k16_whole_words_in_two_parts) (n := 63) (k := n + 1) (x := "script") (CX := fun w => L2N.CX PySem.Challenge.pw_printjobs_k16_whole_words_in_two_parts w) rfl (by decide) (by kernel_rfl) hn ?F (fun _ _ _ _ _ z => by obtain ⟨_, _, _, _, _, _, _, _, _, _, _, _, z⟩ := z; exact z)
    intro w mg fa h Y Gm hmg0
    obtain ⟨K, KX, c⟩ := Y
    have hmg : mg ("law" : PySem.Str) = some (.ref fa) := by
      have e : (HandSHeadRun.topDef (OpenLaw.row PySem.Challenge.rw_printjobs_k16_whole_words_in_two_parts).prog 42).name = ("law" : PySem.Str) := by kernel_rfl
      rw [← e]
      exact hmg0
    obtain ⟨fd, FD⟩ := EV.sm_dfn c 0 "law" (EV.topS 42) [] rfl
    have e := hmg.symm.trans (He.glo_ok KX Gm (EV.sm_fact c 0 (f := .glo "law") rfl))
    cases e
    have b := L2.FunD.bindsA (ps := ["script"]) FD fun _ _ _ _ _ _ us hl => match us, hl with | [_], _ => rfl
    refine ⟨K, KX, EV.lawAt KX c (sp := EV.spF K (EV.caX K) (EV.cal EV.GG (n + 1)) EV.i_law) (fun s v => b s [v] rfl) (fun H a ns hl hO hS => ?_) fun base KB GB LT => ?_⟩
    · obtain ⟨s', e⟩ := main ns hl
      exact EV.sp_ofS e H a hO hS
    · exact EV.law_fn2 (EV.whole_ok KX Gm c) LT EV.Gi_law FD EV.sc_law rfl rfl EV.ch_law

set_option maxHeartbeats 1000000
theorem PySem.Challenge.cw_printjobs_k16_whole_words_in_two_parts_holds : PySem.Challenge.rw_printjobs_k16_whole_words_in_two_parts.Holds :=
  PySem.Challenge.cw_printjobs_k16_whole_words_in_two_parts_holds_of 6 ⟨rfl, by decide, by decide⟩ (fun ns _ => EV.law_ok 0 ns)
