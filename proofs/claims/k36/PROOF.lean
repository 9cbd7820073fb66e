import PyProof.Rows.All
import Wide.All
import OpenK.AllK
import Wide.FinOn
import HandS.ForExc
import HandS.ForMost
import HandS.CallSlots
import HandS.CallLocal
import HandS.IsInst
import HandS.Wide
import HandS.Style
import HandS.Defaults
import HandS.TupAny
import HandS.Dict
import HandS.Iter
import HandS.More
import HandS.ExcIs
import HandS.ExcValue
import HandS.RaiseMore
import HandS.Nested
import HandS.EndTab
import HandS.Rev
import HandS.RevTup
import PyProof.SumAnyB
import KE.DataEq
import PySem.Challenge.RW_ownshelf_k36_deeds_refused
set_option Elab.async false
set_option linter.all false
set_option maxRecDepth 100000
set_option autoImplicit false
set_option maxHeartbeats 4000000
/-! MP0: a small language of data, with a meaning by functions: what the texts of the program and of the laws come to. -/
namespace MP
open PySem

/-- data: what a value is, as far as the laws see it -/
inductive D where
  | non | bl (b : Bool) | int (i : Int) | str (x : Str)
  | tup (xs : List D) | lst (xs : List D)
  | scr (ns : List Int)
  | cell (i : Nat) | fn (x : Str) | ty (n : String)
  | dks (ks : List L2.Key)
  | ex (C : Str)

/-- what may change -/
inductive Cell where
  | lst (xs : List D)
  | ins (C : Str) (fs : List (Str × D))
  | dct (kvs : List (L2.Key × D))

structure Sto where
  nx : Nat
  m : Nat → Option Cell
def Sto.set (s : Sto) (i : Nat) (c : Cell) : Sto := ⟨s.nx, fun j => if j = i then some c else s.m j⟩
def Sto.new (s : Sto) (c : Cell) : Sto := ⟨s.nx + 1, fun j => if j = s.nx then some c else s.m j⟩
def Sto.del (s : Sto) (i : Nat) : Sto := ⟨s.nx, fun j => if j = i then none else s.m j⟩

/-- an exception: its class, what it carries -/
structure Exn where
  cls : Str
  fs : List (Str × D)

inductive Res (α : Type) where
  | ok (a : α) (s : Sto)
  | exc (x : Exn) (s : Sto)
  | bad
@[inline] def Res.bind {α β : Type} (r : Res α) (k : α → Sto → Res β) : Res β :=
  match r with
  | .ok a s => k a s
  | .exc x s => .exc x s
  | .bad => .bad

inductive Bop where
  | add | sub | mul | mulC | fdiv | mod | pow | addC
/-- methods of a list that change it -/
inductive Mid where
  | ins | ext | clr | popA
inductive Cop where
  | eq | ne | lt | le | gt | ge | is | isn | inn | nin
/-- built-in functions and classes that are called -/
inductive Bid where
  | len | abs | max | min | list | listC | tuple | isin (T : String) | int | sum | str
mutual
inductive E where
  | var (i : Nat)
  | non | bl (b : Bool) | int (i : Int) | str (x : Str)
  | fn (x : Str)
  | con (x : Str) (i : Int)
  | bin (op : Bop) (a b : E)
  | neg (a : E) | nt (a : E)
  | an (es : Es) | orr (es : Es)
  | cmp (op : Cop) (a b : E)
  | chn (op op' : Cop) (a b c : E)
  | chn3 (op op' op'' : Cop) (a b c d : E)
  | ife (c a b : E)
  | ix (a b : E)
  | sl (a : E) (lo hi : Eo)
  | rev (a : E)
  | revL (a : E)
  | tup (es : Es) | lst (es : Es) | lstC (es : Es)
  | call (f : Str) (es : Es)
  | callv (i : Nat) (es : Es)
  | callc (f : E) (es : Es)
  | blt (b : Bid) (es : Es)
  | mk (C : Str) (es : Es)
  | meth (o : E) (m : Str) (es : Es)
  | join (sep : E) (l : E)
  | pop (o : E)
  | fld (o : E) (f : Str)
  | lc (c : Bool) (i : Nat) (src : W) (cond : Eo) (elt : E)
  | dnew
  | isE (e : E) (T : Str) (subs : List (Str × Bool))
  | isT (e : E) (Ts : List Str) (subs : List (Str × Bool))
  | mc (m : Mid) (o : E) (es : Es)
inductive Es where
  | nil | cons (e : E) (es : Es)
inductive Eo where
  | none | some (e : E)
inductive W where
  | seq (e : E) | rng (a : E) | rng2 (a b : E)
end
mutual
inductive S where
  | asg (i : Nat) (e : E)
  | unp (is : List Nat) (e : E)
  | par (i j : Nat) (a b : E)
  | six (o i e : E)
  | six2 (t o i p q : E)
  | sfld (o : E) (f : Str) (e : E)
  | app (o e : E)
  | expr (e : E)
  | ret (e : E)
  | retF (i : Nat)
  | retN
  | pass
  | ifs (c : E) (a b : Ss)
  | whl (c : E) (b : Ss)
  | for1 (i : Nat) (src : W) (b : Ss)
  | forT (is : List Nat) (src : W) (b : Ss)
  | forC1 (i : Nat) (e : E) (b : Ss)
  | forCT (is : List Nat) (e : E) (b : Ss)
  | forZ (is : List Nat) (x y : E) (b : Ss)
  | slset (o lo hi e : E)
  | raise (C : Str)
  | tryK (C : Str) (i j : Nat) (subs : List (Str × Bool)) (b : Ss)
inductive Ss where
  | nil | cons (s : S) (ss : Ss)
end

/-! ### operators -/
mutual
def toP : D → Option PyData
  | .non => some .none
  | .bl b => some (.bool b)
  | .int i => some (.int i)
  | .str x => some (.str x)
  | .tup xs => (toPs xs).map PyData.tuple
  | .lst xs => (toPs xs).map PyData.list
  | .scr ns => some (.list (ns.map PyData.int))
  | .cell _ => none
  | .fn _ => none
  | .ty _ => none
  | .dks _ => none
  | .ex _ => none
def toPs : List D → Option (List PyData)
  | [] => some []
  | x :: xs => match toP x, toPs xs with
    | some p, some ps => some (p :: ps)
    | _, _ => none
end
/-- keys of dicts -/
def kD : L2.Key → D
  | .inl i => .int i
  | .inr x => .str x
def keyD : D → Option L2.Key
  | .int i => some (.inl i)
  | .str x => some (.inr x)
  | _ => none
/-- the keys of a dict, its pairs -/
def dctOf (s : Sto) : D → Option (List (L2.Key × D))
  | .cell i => match s.m i with
    | some (.dct kvs) => some kvs
    | _ => none
  | _ => none
def dksOf (s : Sto) (d : D) : Option (List L2.Key) := match d with
  | .dks ks => some ks
  | d => (dctOf s d).map fun kvs => kvs.map (·.1)
def valD (kvs : List (L2.Key × D)) (k : L2.Key) : Option D := (kvs.find? fun kv => decide (kv.1 = k)).map (·.2)
def putKD (kvs : List (L2.Key × D)) (k : L2.Key) (v : D) : List (L2.Key × D) := if (kvs.any fun kv => decide (kv.1 = k)) = true then kvs.map fun kv => if kv.1 = k then (kv.1, v) else kv else kvs ++ [(k, v)]
def memK (k : L2.Key) (ks : List L2.Key) : Bool := ks.any fun j => decide (j = k)
/-- a list that is read -/
def seqOf (s : Sto) : D → Option (List D)
  | .lst xs => some xs
  | .scr ns => some (ns.map D.int)
  | .cell i => match s.m i with
    | some (.lst xs) => some xs
    | _ => none
  | _ => none
def seqV (s : Sto) : D → Option (List D)
  | .tup xs => some xs
  | d => seqOf s d
def eqD (s : Sto) (x y : D) : Option Bool :=
  let p := match x with | .cell i => (match s.m i with | some (.lst xs) => toP (.lst xs) | _ => none) | d => toP d
  let q := match y with | .cell i => (match s.m i with | some (.lst xs) => toP (.lst xs) | _ => none) | d => toP d
  match p, q with
  | some a, some b => if min a.depth b.depth ≤ 100 then some (PyData.eqv a b) else none
  | _, _ => none
/-- a list that is read where it lies -/
def lstOf (s : Sto) : D → Option (List D)
  | .lst xs => some xs
  | .cell i => match s.m i with
    | some (.lst xs) => some xs
    | _ => none
  | _ => none
def mulOk (x y : Int) : Prop := x.natAbs.log2 + y.natAbs.log2 < 1000000 ∨ x.natAbs < 2 ^ 64 ∨ y.natAbs < 2 ^ 64
instance {x y : Int} : Decidable (mulOk x y) := inferInstanceAs (Decidable (_ ∨ _ ∨ _))
def okO (o : Option D) (s : Sto) : Res D := match o with
  | some d => .ok d s
  | none => .bad
/-- a text, n times -/
def repS (n : Nat) (a : Str) : Str := if n = 1 then a else ⟨(List.replicate n a.cps).foldl (· ++ ·) #[]⟩
def binD (op : Bop) (x y : D) (s : Sto) : Res D := match op with
  | .add => match x, y with
    | .int i, .int j => .ok (.int (i + j)) s
    | .str a, .str b => if a.length + b.length ≤ sizeLine then .ok (.str (a ++ b)) s else .bad
    | .tup xs, .tup ys => if xs.length + ys.length ≤ sizeLine then .ok (.tup (xs ++ ys)) s else .bad
    | a, b => match lstOf s a, lstOf s b with
      | some xs, some ys => if xs.length + ys.length ≤ sizeLine then .ok (.lst (xs ++ ys)) s else .bad
      | _, _ => .bad
  | .addC => match lstOf s x, lstOf s y with
    | some xs, some ys => if xs.length + ys.length ≤ sizeLine then .ok (.cell s.nx) (s.new (.lst (xs ++ ys))) else .bad
    | _, _ => .bad
  | .sub => match x, y with
    | .int i, .int j => .ok (.int (i - j)) s
    | _, _ => .bad
  | .mul => match x, y with
    | .int i, .int j => if mulOk i j then .ok (.int (i * j)) s else .bad
    | .str a, .int k => if 1 ≤ k ∧ k ≤ 1000 ∧ 1 ≤ a.length ∧ a.length ≤ 1000 then .ok (.str (repS k.toNat a)) s else .bad
    | a, .int k => match lstOf s a with
      | some xs => if 0 ≤ k ∧ k < 2 ^ 40 ∧ xs.length * k.toNat ≤ sizeLine then .ok (.lst (List.replicate k.toNat xs).flatten) s else .bad
      | none => .bad
    | _, _ => .bad
  | .mulC => match y with
    | .int k => match lstOf s x with
      | some xs => if 0 ≤ k ∧ k < 2 ^ 40 ∧ xs.length * k.toNat ≤ sizeLine then .ok (.cell s.nx) (s.new (.lst (List.replicate k.toNat xs).flatten)) else .bad
      | none => .bad
    | _ => .bad
  | .fdiv => match x, y with
    | .int i, .int j => if 0 < j ∧ j.natAbs.log2 < 9000 then .ok (.int (i / j)) s else .bad
    | _, _ => .bad
  | .mod => match x, y with
    | .int i, .int j => if 0 < j then .ok (.int (i % j)) s else .bad
    | _, _ => .bad
  | .pow => match x, y with
    | .int i, .int j => if 0 ≤ j ∧ j ≤ 1000000 ∧ i.natAbs < 2 ^ 64 then .ok (.int (i ^ j.toNat)) s else .bad
    | _, _ => .bad
def isCell : D → Bool
  | .cell _ => true
  | _ => false
def liveC (s : Sto) : D → Bool
  | .cell i => (s.m i).isSome
  | _ => false
def isNon : D → Bool
  | .non => true
  | _ => false
def cmpD (op : Cop) (x y : D) (s : Sto) : Res D := match op with
  | .eq => okO ((eqD s x y).map D.bl) s
  | .ne => okO ((eqD s x y).map fun b => D.bl (!b)) s
  | .lt => match x, y with
    | .int i, .int j => .ok (.bl (decide (i < j))) s
    | .str a, .str b => .ok (.bl (decide (a.cps.toList < b.cps.toList))) s
    | _, _ => .bad
  | .le => match x, y with
    | .int i, .int j => .ok (.bl (decide (i ≤ j))) s
    | _, _ => .bad
  | .gt => match x, y with
    | .int i, .int j => .ok (.bl (decide (j < i))) s
    | _, _ => .bad
  | .ge => match x, y with
    | .int i, .int j => .ok (.bl (decide (j ≤ i))) s
    | _, _ => .bad
  | .is => match y with
    | .non => if isCell x = true then (if liveC s x = true then .ok (.bl false) s else .bad) else .ok (.bl (isNon x)) s
    | .bl b => match x with
      | .bl a => .ok (.bl (decide (a = b))) s
      | _ => .bad
    | _ => .bad
  | .isn => match y with
    | .non => if isCell x = true then (if liveC s x = true then .ok (.bl true) s else .bad) else .ok (.bl (!isNon x)) s
    | .bl b => match x with
      | .bl a => .ok (.bl (!decide (a = b))) s
      | _ => .bad
    | _ => .bad
  | .inn => match dksOf s y with
    | some ks => match keyD x with
      | some k => .ok (.bl (memK k ks)) s
      | none => .bad
    | none => match seqV s y, toP x with
      | some ys, some p => match toPs ys with
        | some qs => if min (PyData.depthAll qs) p.depth ≤ 100 then .ok (.bl (qs.any fun q => PyData.eqv q p)) s else .bad
        | none => .bad
      | _, _ => .bad
  | .nin => match dksOf s y with
    | some ks => match keyD x with
      | some k => .ok (.bl (!memK k ks)) s
      | none => .bad
    | none => match seqV s y, toP x with
      | some ys, some p => match toPs ys with
        | some qs => if min (PyData.depthAll qs) p.depth ≤ 100 then .ok (.bl (!qs.any fun q => PyData.eqv q p)) s else .bad
        | none => .bad
      | _, _ => .bad
def isLstC (o : D) (s : Sto) : Bool := match o with
  | .cell j => (match s.m j with | some (.lst _) => true | _ => false)
  | _ => false
/-- a list's own methods -/
def mcD (m : Mid) (o : D) (ds : List D) (s : Sto) : Res D := match o with
  | .cell j => match s.m j with
    | some (.lst xs) => match m, ds with
      | .ins, [.int i, d] => if 0 ≤ i ∧ i < 2 ^ 40 ∧ xs.length < sizeLine then .ok .non (s.set j (.lst (xs.take i.toNat ++ [d] ++ xs.drop i.toNat))) else .bad
      | .ext, [y] => match lstOf s y with
        | some ys => if xs.length + ys.length ≤ sizeLine then .ok .non (s.set j (.lst (xs ++ ys))) else .bad
        | none => .bad
      | .clr, [] => .ok .non (s.set j (.lst []))
      | .popA, [.int i] => if 0 ≤ i ∧ i < 2 ^ 40 then (match xs[i.toNat]? with
        | some d => .ok d (s.set j (.lst (xs.eraseIdx i.toNat)))
        | none => .bad) else .bad
      | _, _ => .bad
    | _ => .bad
  | _ => .bad
def ixD (x y : D) (s : Sto) : Res D := match y with
  | .int i => match x with
    | .tup xs => okO (atI xs i) s
    | .str z => if z.length ≤ sizeLine then okO ((atI z.cps.toList i).map fun c => D.str ⟨#[c]⟩) s else .bad
    | d => match seqOf s d with
      | some xs => okO (atI xs i) s
      | none => match dctOf s d with
        | some kvs => okO (valD kvs (.inl i)) s
        | none => .bad
  | .str z => match dctOf s x with
    | some kvs => okO (valD kvs (.inr z)) s
    | none => .bad
  | _ => .bad
where atI {α : Type} (xs : List α) (i : Int) : Option α := L2.atI xs i
def cutD (xs : List D) (lo hi : Option Int) : List D := (xs.drop (HT.sIx xs.length 0 lo)).take (HT.sIx xs.length xs.length hi - HT.sIx xs.length 0 lo)
def slD (x : D) (l h : Option Int) (s : Sto) : Res D := match x with
    | .tup xs => .ok (.tup (cutD xs l h)) s
    | .str z => if z.length ≤ sizeLine then .ok (.str (L2.cutS z l h)) s else .bad
    | d => match seqOf s d with
      | some xs => .ok (.lst (cutD xs l h)) s
      | none => .bad
def revD (x : D) (s : Sto) : Res D := match seqOf s x with
  | some xs => .ok (.lst xs.reverse) s
  | none => .bad
def isinD (T : String) (x : D) (s : Sto) : Option Bool :=
  let t : Option String := match x with
    | .non => some "NoneType" | .bl _ => some "bool" | .int _ => some "int" | .str _ => some "str" | .tup _ => some "tuple" | .lst _ => some "list" | .scr _ => some "list"
    | .cell i => (match s.m i with | some (.lst _) => some "list" | _ => none)
    | _ => none
  match t with
  | some t => L2.kitB t T
  | none => none
def intsD : List D → Option (List Int)
  | [] => some []
  | .int i :: r => (intsD r).map (i :: ·)
  | _ => none
/-- truths counted -/
def cntB : List Bool → Int
  | [] => 0
  | b :: r => (if b = true then 1 else 0) + cntB r
def blsD : List D → Option (List Bool)
  | [] => some []
  | .bl i :: r => (blsD r).map (i :: ·)
  | _ => none
def bltD (b : Bid) (xs : List D) (s : Sto) : Res D := match b, xs with
  | .len, [.tup ys] => .ok (.int ys.length) s
  | .len, [.str z] => if z.length ≤ sizeLine then .ok (.int z.length) s else .bad
  | .len, [d] => match seqOf s d with
    | some ys => .ok (.int ys.length) s
    | none => .bad
  | .abs, [.int i] => .ok (.int (if i < 0 then -i else i)) s
  | .max, [.int i, .int j] => .ok (.int (if j > i then j else i)) s
  | .min, [.int i, .int j] => .ok (.int (if j < i then j else i)) s
  | .max, [.lst ys] => match intsD ys with
    | some (i :: is) => .ok (.int (is.foldl max i)) s
    | _ => .bad
  | .list, [.tup ys] => .ok (.lst ys) s
  | .list, [d] => match seqOf s d with
    | some ys => .ok (.lst ys) s
    | none => .bad
  | .listC, [.tup ys] => .ok (.cell s.nx) (s.new (.lst ys))
  | .listC, [d] => match seqOf s d with
    | some ys => .ok (.cell s.nx) (s.new (.lst ys))
    | none => .bad
  | .tuple, [.tup ys] => .ok (.tup ys) s
  | .tuple, [d] => match seqOf s d with
    | some ys => .ok (.tup ys) s
    | none => .bad
  | .isin T, [d] => okO ((isinD T d s).map D.bl) s
  | .int, [.int i] => .ok (.int i) s
  | .int, [.bl k] => .ok (.int (if k then 1 else 0)) s
  | .str, [.int i] => if i.natAbs.log2 < 1920 then .ok (.str (toString i)) s else .bad
  | .str, [.str x] => .ok (.str x) s
  | .sum, [.lst ys] => match blsD ys with
    | some bs => .ok (.int (cntB bs)) s
    | none => .bad
  | _, _ => .bad
def strsD : List D → Option (List Str)
  | [] => some []
  | .str x :: r => (strsD r).map (x :: ·)
  | _ => none
def joinD (a : Str) (l : D) (s : Sto) : Res D := match seqOf s l with
  | some xs => match strsD xs with
    | some ys => if (ys.map (·.length)).sum + ys.length * a.length ≤ 16777216 then .ok (.str (Str.join a ys)) s else .bad
    | none => .bad
  | none => .bad
def popD (x : D) (s : Sto) : Res D := match x with
  | .cell i => match s.m i with
    | some (.lst xs) => match xs.getLast? with
      | some d => .ok d (s.set i (.lst xs.dropLast))
      | none => .bad
    | _ => .bad
  | _ => .bad
def fldD (x : D) (f : Str) (s : Sto) : Res D := match x with
  | .cell i => match s.m i with
    | some (.ins _ fs) => okO (fs.lookup f) s
    | _ => .bad
  | _ => .bad
def putF (f : Str) (v : D) : List (Str × D) → List (Str × D)
  | [] => [(f, v)]
  | (g, w) :: r => if g = f then (g, v) :: r else (g, w) :: putF f v r

/-- which def: one of the module, a method of a class -/
inductive FK where
  | f (x : Str) | m (C x : Str)
  deriving DecidableEq
abbrev Fn := FK → List D → Sto → Res D
abbrev Env := List (Option D)
def getV (δ : Env) (i : Nat) (s : Sto) : Res D := match δ[i]? with
  | some (some d) => .ok d s
  | _ => .bad
def rngL (n : Int) : List D := (List.range n.toNat).map fun (k : Nat) => D.int k
/-- what is walked -/
def seqW (d : D) : Option (List D) := match d with
  | .tup xs => some xs
  | .lst xs => some xs
  | .scr ns => some (ns.map D.int)
  | .dks ks => some (ks.map kD)
  | _ => none
def rng2L (a b : Int) : List D := (List.range (b - a).toNat).map fun (k : Nat) => D.int (a + k)
/-- a comprehension's turns: nothing that may change is changed, nothing is raised -/
def lcRun (i : Nat) (cond : Option (Env → Sto → Res D)) (elt : Env → Sto → Res D) (δ : Env) : List D → List D → Sto → Res (List D)
  | [], acc, s => .ok acc s
  | x :: xs, acc, s => match (match cond with | none => Res.ok (D.bl true) s | some c => c (δ.set i (some x)) s) with
    | .ok (.bl true) s1 => (match elt (δ.set i (some x)) s1 with
      | .ok y s2 => if acc.length < sizeLine then lcRun i cond elt δ xs (acc ++ [y]) s2 else .bad
      | _ => .bad)
    | .ok (.bl false) s1 => lcRun i cond elt δ xs acc s1
    | _ => .bad
open Classical in
/-- an exception ahead of a call of what may not be there -/
noncomputable def Res.noexc {α : Type} (p : Prop) : Res α → Res α
  | .ok a s => .ok a s
  | .exc x s => if p then .exc x s else .bad
  | .bad => .bad
/-! ### the meaning of expressions -/
mutual
noncomputable def evE (F : Fn) : E → Env → Sto → Res D
  | .var i, δ, s => getV δ i s
  | .non, _, s => .ok .non s
  | .bl b, _, s => .ok (.bl b) s
  | .int i, _, s => .ok (.int i) s
  | .str x, _, s => .ok (.str x) s
  | .fn x, _, s => .ok (.fn x) s
  | .con _ i, _, s => .ok (.int i) s
  | .bin op a b, δ, s => (evE F a δ s).bind fun x s1 => (evE F b δ s1).bind fun y s2 => binD op x y s2
  | .neg a, δ, s => (evE F a δ s).bind fun x s1 => match x with | .int i => .ok (.int (-i)) s1 | _ => .bad
  | .nt a, δ, s => (evE F a δ s).bind fun x s1 => match x with | .bl c => .ok (.bl (!c)) s1 | _ => .bad
  | .an es, δ, s => evAnd F es δ s
  | .orr es, δ, s => evOr F es δ s
  | .cmp op a b, δ, s => (evE F a δ s).bind fun x s1 => (evE F b δ s1).bind fun y s2 => cmpD op x y s2
  | .chn op op' a b c, δ, s => (evE F a δ s).bind fun x s1 => (evE F b δ s1).bind fun y s2 => (cmpD op x y s2).bind fun k s3 => match k with
    | .bl true => (evE F c δ s3).bind fun z s4 => cmpD op' y z s4
    | .bl false => .ok (.bl false) s3
    | _ => .bad
  | .chn3 op op' op'' a b c d, δ, s => (evE F a δ s).bind fun x s1 => (evE F b δ s1).bind fun y s2 => (cmpD op x y s2).bind fun k s3 => match k with
    | .bl true => (evE F c δ s3).bind fun z s4 => (cmpD op' y z s4).bind fun k s5 => match k with
      | .bl true => (evE F d δ s5).bind fun u s6 => cmpD op'' z u s6
      | .bl false => .ok (.bl false) s5
      | _ => .bad
    | .bl false => .ok (.bl false) s3
    | _ => .bad
  | .ife c a b, δ, s => (evE F c δ s).bind fun k s1 => match k with
    | .bl true => evE F a δ s1
    | .bl false => evE F b δ s1
    | _ => .bad
  | .ix a b, δ, s => (evE F a δ s).bind fun x s1 => (evE F b δ s1).bind fun y s2 => ixD x y s2
  | .sl a lo hi, δ, s => (evE F a δ s).bind fun x s1 => (evEo F lo δ s1).bind fun l s2 => (evEo F hi δ s2).bind fun h s3 => slD x l h s3
  | .rev a, δ, s => (evE F a δ s).bind fun x s1 => revD x s1
  | .revL a, δ, s => (evE F a δ s).bind fun x s1 => revD x s1
  | .tup es, δ, s => (evEs F es δ s).bind fun xs s1 => if xs.length ≤ sizeLine then .ok (.tup xs) s1 else .bad
  | .lst es, δ, s => (evEs F es δ s).bind fun xs s1 => if xs.length ≤ sizeLine then .ok (.lst xs) s1 else .bad
  | .lstC es, δ, s => (evEs F es δ s).bind fun xs s1 => if xs.length ≤ sizeLine then .ok (.cell s1.nx) (s1.new (.lst xs)) else .bad
  | .call f es, δ, s => (evEs F es δ s).bind fun xs s1 => F (.f f) xs s1
  | .callv i es, δ, s => (getV δ i s).bind fun f s1 => match f with
    | .fn x => (evEs F es δ s1).bind fun xs s2 => F (.f x) xs s2
    | _ => .bad
  | .callc e es, δ, s => (evE F e δ s).bind fun f s1 => match f with
    | .fn x => (evEs F es δ s1).bind fun xs s2 => F (.f x) xs s2
    | _ => .bad
  | .blt b es, δ, s => (evEs F es δ s).bind fun xs s1 => bltD b xs s1
  | .mk C es, δ, s => (evEs F es δ s).bind fun xs s1 => (F (.m C "__init__") (.cell s1.nx :: xs) (s1.new (.ins C []))).bind fun r s2 => match r with
    | .non => .ok (.cell s1.nx) s2
    | _ => .bad
  | .meth o m es, δ, s => (evE F o δ s).bind fun x s1 => match x with
    | .cell i => (match s1.m i with
      | some (.ins C fs) => (match fs.lookup m with
        | none => ((evEs F es δ s1).noexc (∃ ys s3, F (.m C m) ys s3 ≠ .bad)).bind fun xs s2 => F (.m C m) (x :: xs) s2
        | some _ => .bad)
      | _ => .bad)
    | _ => .bad
  | .join a b, δ, s => (evE F a δ s).bind fun x s1 => match x with
    | .str z => (evE F b δ s1).bind fun y s2 => joinD z y s2
    | _ => .bad
  | .pop o, δ, s => (evE F o δ s).bind fun x s1 => popD x s1
  | .fld o f, δ, s => (evE F o δ s).bind fun x s1 => fldD x f s1
  | .dnew, _, s => .ok (.cell s.nx) (s.new (.dct []))
  | .isT e _ subs, δ, s => (evE F e δ s).bind fun x s1 => match x with
    | .ex C => okO ((subs.lookup C).map D.bl) s1
    | _ => .bad
  | .mc m o es, δ, s => (evE F o δ s).bind fun x s1 => if isLstC x s1 = true then (evEs F es δ s1).bind fun xs s2 => mcD m x xs s2 else .bad
  | .isE e _ subs, δ, s => (evE F e δ s).bind fun x s1 => match x with
    | .ex C => okO ((subs.lookup C).map D.bl) s1
    | _ => .bad
  | .lc c i src cond elt, δ, s => (evW F src δ s).bind fun xs s1 => match lcRun i (evC F cond) (evE F elt) (δ.set i none) xs [] s1 with
      | .ok ys s2 => if c = true then .ok (.cell s2.nx) (s2.new (.lst ys)) else .ok (.lst ys) s2
      | _ => .bad
noncomputable def evW (F : Fn) : W → Env → Sto → Res (List D)
  | .seq e, δ, s => (evE F e δ s).bind fun x s1 => match seqW x with
    | some xs => .ok xs s1
    | none => .bad
  | .rng a, δ, s => (evE F a δ s).bind fun x s1 => match x with
    | .int n => if -(2 ^ 62) ≤ n ∧ n < 2 ^ 62 then .ok (rngL n) s1 else .bad
    | _ => .bad
  | .rng2 a b, δ, s => (evE F a δ s).bind fun x s1 => (evE F b δ s1).bind fun y s2 => match x, y with
    | .int m, .int n => if -(2 ^ 62) ≤ m ∧ m < 2 ^ 62 ∧ -(2 ^ 62) ≤ n ∧ n < 2 ^ 62 then .ok (rng2L m n) s2 else .bad
    | _, _ => .bad
noncomputable def evEs (F : Fn) : Es → Env → Sto → Res (List D)
  | .nil, _, s => .ok [] s
  | .cons e es, δ, s => (evE F e δ s).bind fun x s1 => (evEs F es δ s1).bind fun xs s2 => .ok (x :: xs) s2
noncomputable def evEo (F : Fn) : Eo → Env → Sto → Res (Option Int)
  | .none, _, s => .ok none s
  | .some e, δ, s => (evE F e δ s).bind fun x s1 => match x with
    | .int i => .ok (some i) s1
    | _ => .bad
noncomputable def evC (F : Fn) : Eo → Option (Env → Sto → Res D)
  | .none => none
  | .some e => some (evE F e)
noncomputable def evAnd (F : Fn) : Es → Env → Sto → Res D
  | .nil, _, _ => .bad
  | .cons e .nil, δ, s => evE F e δ s
  | .cons e (.cons e2 es), δ, s => (evE F e δ s).bind fun x s1 => match x with
    | .bl true => evAnd F (.cons e2 es) δ s1
    | .bl false => .ok (.bl false) s1
    | _ => .bad
noncomputable def evOr (F : Fn) : Es → Env → Sto → Res D
  | .nil, _, _ => .bad
  | .cons e .nil, δ, s => evE F e δ s
  | .cons e (.cons e2 es), δ, s => (evE F e δ s).bind fun x s1 => match x with
    | .bl false => evOr F (.cons e2 es) δ s1
    | .bl true => .ok (.bl true) s1
    | _ => .bad
end
end MP
/-! MP1: how data lie in the hand layer's heap. -/
namespace L2
open PySem PySem.Spec PyProof.Rows
theorem size_times (a : Array Nat) : ∀ (n : Nat) (b : Array Nat), ((List.replicate n a).foldl (· ++ ·) b).size = b.size + n * a.size
  | 0, b => by simp
  | n + 1, b => by
    rw [List.replicate_succ, List.foldl_cons, size_times a n, Array.size_append, Nat.succ_mul]
    omega
/-- a text some times -/
theorem op_times {X : Cx} : OpR X (binaryOp .Mult) (fun x y H Q => ∃ a k, x = .str a ∧ y = .int k ∧ 1 ≤ k ∧ k ≤ 1000 ∧ 1 ≤ a.length ∧ a.length ≤ 1000 ∧ Q (.str (MP.repS k.toNat a)) H) := by
  intro pins s σ H x y v u Q I rx ry q
  obtain ⟨a, k, ex, ey, k1, k2, a1, a2, q⟩ := q
  subst ex ey
  obtain ⟨t1, rfl⟩ := rx
  obtain ⟨t2, rfl⟩ := ry
  have hm : a.length * k.toNat ≤ 1000 * 1000 := Nat.mul_le_mul a2 (by omega)
  have nk : ¬ k < 1 := by omega
  have fits : (decide (k < -(2 ^ 63 : Int)) || decide (k ≥ 2 ^ 63)) = false := by
    rw [decide_eq_false (show ¬ k < -(2 ^ 63 : Int) by omega), decide_eq_false (show ¬ k ≥ 2 ^ 63 by omega)]; rfl
  refine PySem.P.mul_str fits (fun _ _ => ?_) (fun _ _ => ?_) ?_
  · have : (9223372036854775807 : Int) / 1000 ≤ (2 ^ 63 - 1) / k := by
      have e : ((2 : Int) ^ 63 - 1) = 9223372036854775807 := by decide
      rw [e]
      exact (Int.le_ediv_iff_mul_le (by omega)).mpr (Int.le_trans (Int.mul_le_mul_of_nonneg_left k2 (by decide)) (by decide))
    have e2 : (9223372036854775807 : Int) / 1000 = 9223372036854775 := by decide
    omega
  · show decide (a.length * k.toNat > sizeLine) = false
    exact decide_eq_false (by show ¬ _ > 16777216; omega)
  · rw [if_neg nk]
    by_cases k3 : k = 1
    · subst k3
      rw [if_pos (by simp)]
      exact ⟨.str a, H, I, ⟨t1, rfl⟩, q⟩
    · rw [if_neg (by
        have : ¬ a.length = 0 := by omega
        simp [k3, this])]
      have e : MP.repS k.toNat a = ⟨(List.replicate k.toNat a.cps).foldl (· ++ ·) #[]⟩ := if_neg (by omega)
      rw [e] at q
      refine ⟨?_, .str _, H, I.tok _, ⟨_, rfl⟩, q⟩
      show ((List.replicate k.toNat a.cps).foldl (· ++ ·) #[]).size ≤ 16777216
      rw [size_times]
      have e3 : k.toNat * a.cps.size = a.length * k.toNat := Nat.mul_comm _ _
      rw [e3]
      simp
      omega
/-- o[lo:hi] = another list -/
theorem pg_slset {X : Cx} {o lo hi : Expr} {to : TE} {tl th : TO} {p2 pos : Pos} (ho : PE X o to) (hl : PO X (some lo) tl) (hu : PO X (some hi) th) : PG X (.Subscript o (.Slice (some lo) (some hi) none p2) pos) (fun v σ H Q => to σ H fun x H1 => tl σ H1 fun l H2 => th σ H2 fun u H3 =>
    ∃ a b xs ys i j, x = .ref a ∧ v = .ref b ∧ l = some i ∧ u = some j ∧ H3 a = some (.lst xs) ∧ H3 b = some (.lst ys) ∧ a ≠ b ∧ 0 ≤ i ∧ i ≤ j ∧ j ≤ xs.length ∧ xs.length + ys.length ≤ sizeLine ∧ Q σ (upd H3 a (.lst (xs.take i.toNat ++ ys ++ xs.drop j.toNat)))) := by
  constructor
  intro pins s σ H v u Q I r h
  have form : assign (.Subscript o (.Slice (some lo) (some hi) none p2) pos) X.env u = (do
      let ov ← holding [u] (eval o X.env)
      let iv ← holding [u, ov] (eval (.Slice (some lo) (some hi) none p2) X.env)
      standAt pos
      holding [u, ov, iv] (setItem ov iv u)
      release [iv, u, ov] []) := rfl
  rw [form]
  refine wpAny_bind (wpAny_holding (thn (ho.run pins s σ H _ I h) fun ov s1 q1 => ?_))
  obtain ⟨x, H1, I1, r1, q1⟩ := q1
  refine wpAny_bind (wpAny_holding (wpAny_Slice (thn (hl.run pins s1 σ H1 _ I1 q1) fun vl s2 q2 => ?_)))
  obtain ⟨l, H2, I2, pl, q2⟩ := q2
  refine thn (hu.run pins s2 σ H2 _ I2 q2) fun vu s3 q3 => ?_
  obtain ⟨w, H3, I3, pu, a, b, xs, ys, i, j, e1, e2, e3, e4, hA, hB, hne, h0, h1, h2, hz, q⟩ := q3
  subst e1 e2 e3 e4
  rw [evalPart_none]
  refine wpAny_pure ?_
  have grown : ∀ c oc, s3.heap.get? c = some oc → (s3.heap.push { cls := .type "slice", data := .fields #[vl, vu, .none] }).get? c = some oc := fun c oc z => Heap.get?_push_of_some _ z
  have I4 := I3.kept (t' := s3.toks) grown
  obtain rfl : ov = Value.ref a := r1
  obtain rfl : u = Value.ref b := r
  cases pl with
  | int _ ta => cases pu with
    | int _ tc =>
      exact wpAny_bind (wpAny_standAt (wpAny_bind (wpAny_holding (set_slice I4 hA hB hne (Heap.IsSliceOf.new ..) ⟨ta, rfl⟩ ⟨tc, rfl⟩ h0 h1 h2 hz fun s5 I5 => wpAny_release ⟨σ, _, I5, q⟩))))
/-- what a dict holds at a key, by a subscript -/
theorem ix_dget {X : Cx} (hu : X.A.units + 1 < cLine) : IxR X (fun x y H Q => ∃ d z, x = .ref d ∧ DGet H d y (some z) ∧ Q z H) := by
  intro value slice pins s σ H x y v u Q I rx ry q hs
  obtain ⟨d, z, ex, g, q⟩ := q
  subst ex
  obtain rfl : v = Value.ref d := rx
  have isD := dict_typeIs I g
  unfold subscriptTail
  refine wpAny_bind ?_
  rw [getitemInPython_of_ne isD.not_modules]
  refine wpAny_bind (wpAny_specialOf isD PySem.F.slot_dict_getitem.lookup ?_)
  have told : wpAny (model X.prog X.w) X.A (subscripted slice false (.ref d) u) (fun r s3 => wpAny (model X.prog X.w) X.A (letTemporaryGo value (.ref d) r >>= fun _ => pure r) (EP X pins σ Q) X.xe s3) X.xe s := by
    rw [hs]
    exact wpAny_operating (wpAny_mono (d_getItem hu I g ry fun w3 s3 I3 r3 => (⟨z, H, I3, r3, q⟩ : EP X pins σ Q w3 s3)) (fun r s3 h3 => wpAny_bind (wpAny_letTemporaryGo (wpAny_pure h3))) fun _ _ t => t)
  first
    | exact wpAny_pure (wpAny_bind told)
    | exact wpAny_bind (wpAny_pure (wpAny_bind told))
    | exact wpAny_bind told
/-- an exception that was caught, of the class cls, kept at a -/
def ExK (cls : Value) (a : Addr) : HO := .ext fun h => ∃ (oe : Obj) (vs : Array Value), h.get? a = some oe ∧ Zc cls none oe ∧ oe.data = .fields vs
theorem exK_ok {P : Program} {w : World} {H : Hp} {h : Heap} {a : Addr} {cls : Value} {oe : Obj} {vs : Array Value} (e : h.get? a = some oe) (z : Zc cls none oe) (d : oe.data = .fields vs) : ObjOk P w H h a (ExK cls a) :=
  ⟨⟨oe, vs, e, z, d⟩, ⟨oe, e⟩, fun h1 h2 ⟨oe, vs, e, z, d⟩ k => ⟨oe, vs, k _ e, z, d⟩⟩
section
variable {X : Cx} {pins : List (Addr × Obj)} {σ : St} {H : Hp} {s : Shared}
/-- what is there, new since the entry, is tracked from now on -/
theorem Inv.track {a : Addr} {o : HO} (I : Inv X pins σ H s) (h0 : X.s_0.heap.get? a = none) (hn : H a = none) (nL : a ≠ X.env.locals) (nC : ∀ x c, X.env.cells.lookup x = some c → c ≠ a) (nP : ∀ p ∈ X.pn ++ pins, p.1 ≠ a) (new : ObjOk X.prog X.w (upd H a o) s.heap a o) :
    Inv X pins σ (upd H a o) s := by
  refine ⟨I.ok, I.os, I.bare, ⟨I.base.keep, I.base.slot, fun b ob e n hx => ?_, I.base.there, fun b xs e => ?_, fun b ob u e => ?_, fun b ps e => ?_⟩, I.loc, I.cell, ?_, fun x c e => ?_, fun p hp => ?_, I.hok.laidN (fun _ _ q => q) hn new, I.len⟩
  · rw [upd_ne (fun z => by rw [z, h0] at e; cases e)]; exact I.base.free b ob e n hx
  · have q := I.base.tups b xs e
    rw [upd_ne (ne_of_none q hn)]; exact q
  · have q := I.base.frzs b ob u e
    rw [upd_ne (ne_of_none q hn)]; exact q
  · obtain ⟨m, q⟩ := I.base.tbls b ps e
    exact ⟨m, by rw [upd_ne (ne_of_none q hn)]; exact q⟩
  · rw [upd_ne (Ne.symm nL)]; exact I.free
  · rw [upd_ne (nC x c e)]; exact I.freeC x c e
  · obtain ⟨e, n, r⟩ := I.pin p hp
    exact ⟨e, by rw [upd_ne (nP p hp)]; exact n, r⟩
/-- isinstance(e, c), e an exception that is kept -/
def rIsK (K : PySem.W.Frag) : List V → Hp → VK → Prop := fun xs H Q => ∃ (a D : Addr) (c : V) (cv : Value) (b : Bool), xs = [.ref a, c] ∧ ExcC K D ∧ H a = some (ExK (.ref D) a) ∧ (∀ u, RelV c u → u = cv) ∧ PySem.W.kitOne K (.ref D) cv = some b ∧ Q (.bl b) H
theorem call_isK : CallR X (.builtin "isinstance") (rIsK X.K) := by
  intro pins s σ H xs us Q I r h
  obtain ⟨a, D, c, cv, b, rfl, C, hH, hcv, e, q⟩ := h
  cases r with
  | cons rx rr =>
    cases rr with
    | cons rt rr =>
      cases rr
      cases rx
      have ec := hcv _ rt
      subst ec
      obtain ⟨⟨oe, vs, hget, hz, hv⟩, _⟩ := I.hok a _ hH
      have J : PySem.W.InstAt s.heap a oe D none := by
        obtain ⟨oc, od, oda, osl⟩ := oe
        obtain ⟨h1, h2⟩ := hz
        dsimp only at h1 h2 hv
        subst h1 h2 hv
        exact ⟨hget, rfl, rfl, trivial⟩
      exact PySem.W.kia_one (PySem.W.handS_kitx_exc C.hg C.hk C.hs C.hd C.ha C.hn C.ht C.hm) I.kIn J e (fun z => nomatch z) fun tk => ⟨.bl b, H, I.kept (t' := tk) fun _ _ z => z, rfl, q⟩
/-- isinstance(e, (c, ..)), e an exception that is kept -/
def rIsKT (K : PySem.W.Frag) : List V → Hp → VK → Prop := fun xs H Q => ∃ (a D tp : Addr) (cs : List Addr) (b : Bool), xs = [.ref a, .ref tp] ∧ ExcC K D ∧ H a = some (ExK (.ref D) a) ∧ H tp = some (.tup (cs.map V.ref)) ∧ PySem.W.kitAny K (.ref D) (cs.map Value.ref) = some b ∧ Q (.bl b) H
theorem vals_refs : ∀ {cs : List Addr} {us : List Value}, Vals (cs.map V.ref) us → us = cs.map Value.ref
  | [], _, h => by cases h; rfl
  | c :: cs, _, h => by
    cases h with
    | cons r t => rw [vals_refs t]; exact congrArg (· :: _) r
theorem call_isKT : CallR X (.builtin "isinstance") (rIsKT X.K) := by
  intro pins s σ H xs us Q I r h
  obtain ⟨a, D, tp, cs, b, rfl, C, hH, hT, e, q⟩ := h
  cases r with
  | cons rx rr =>
    cases rr with
    | cons rt rr =>
      cases rr
      cases rx
      cases rt
      obtain ⟨⟨oe, vs, hget, hz, hv⟩, _⟩ := I.hok a _ hH
      have J : PySem.W.InstAt s.heap a oe D none := by
        obtain ⟨oc, od, oda, osl⟩ := oe
        obtain ⟨h1, h2⟩ := hz
        dsimp only at h1 h2 hv
        subst h1 h2 hv
        exact ⟨hget, rfl, rfl, trivial⟩
      have laid := I.hok tp _ hT
      obtain ⟨_, its, rv, ot, g1, g2, n, g3⟩ := (laid : ObjOk X.prog X.w H s.heap tp (.tup (cs.map V.ref)))
      have ei := vals_refs rv
      subst ei
      obtain ⟨tc, td, tdt, tsl⟩ := ot
      dsimp only at g2 g3
      subst g2 g3
      exact PySem.W.kia_tup (PySem.W.handS_kitx_exc C.hg C.hk C.hs C.hd C.ha C.hn C.ht C.hm) I.kIn J g1 e (fun z => nomatch z) fun tk => ⟨.bl b, H, I.kept (t' := tk) fun _ _ z => z, rfl, q⟩
theorem kit_mk {K : PySem.W.Frag} {D C : Addr} {b : Bool} (h1 : PySem.W.isClsIn K C = true) (h2 : PySem.W.typeIn K (.ref C) = some (.type "type")) (h3 : PySem.W.subIn K (.ref D) (.ref C) = some b) (h4 : PySem.W.subIn K (.ref D) (.ref D) = some true) : PySem.W.kitOne K (.ref D) (.ref C) = some b := by
  unfold PySem.W.kitOne
  by_cases e : D = C
  · subst e
    rw [h3] at h4
    cases h4
    simp
  · rw [if_neg (by simpa using e)]
    unfold PySem.W.kitCls
    have h1' : (PySem.W.clsIn K C).isSome = true := h1
    simp [h1', h2, h3]
theorem kit_mkT {K : PySem.W.Frag} {D : Addr} {b : Bool} (h3 : PySem.W.subIn K (.ref D) (.type "ValueError") = some b) : PySem.W.kitOne K (.ref D) (.type "ValueError") = some b := by
  unfold PySem.W.kitOne
  rw [if_neg (by simp)]
  show (if PySem.W.kitMeta "ValueError" = true then PySem.W.subIn K (.ref D) (.type "ValueError") else none) = some b
  rw [if_pos (by decide +kernel)]
  exact h3
theorem kit_no {K : PySem.W.Frag} {t c : Value} {r : List Value} {b : Bool} (h : PySem.W.kitOne K t c = some false) (h2 : PySem.W.kitAny K t r = some b) : PySem.W.kitAny K t (c :: r) = some b := by
  unfold PySem.W.kitAny
  rw [h]
  exact h2
theorem kit_yes {K : PySem.W.Frag} {t c : Value} {r : List Value} (h : PySem.W.kitOne K t c = some true) : PySem.W.kitAny K t (c :: r) = some true := by
  unfold PySem.W.kitAny
  rw [h]
theorem exm_mk {K : PySem.W.Frag} {D C : Addr} {b : Bool} (h0 : PySem.W.subIn K (.ref C) (.type "BaseException") = some true) (h1 : PySem.W.isClsIn K C = true) (h2 : PySem.W.typeIn K (.ref C) = some (.type "type")) (h3 : PySem.W.subIn K (.ref D) (.ref C) = some b) : PySem.W.exmOne K (.ref D) (.ref C) = some b := by
  unfold PySem.W.exmOne PySem.W.kitCls
  have h1' : (PySem.W.clsIn K C).isSome = true := h1
  simp [h0, h1', h2, h3]
/-- the wish of a clause whose suite keeps what it caught: from then on it is tracked -/
def wKp (K : PySem.W.Frag) (v : Value) (i : Nat) (t : TS) (Wo : WX) (D : Ends) : WX := fun kl dx σ H => ∃ y, PySem.W.exmOne K kl v = some y ∧
  (y = true → dx = none ∧ ∀ a, H a = none → t ⟨fun τ G => G a = none ∧ D.nx (τ.set i none) (upd G a (ExK kl a)), fun _ _ => False, fun _ _ => False, fun _ _ => False⟩ (σ.set i (some (.ref a))) H) ∧ (y = false → Wo kl dx σ H)
/-- an exception in the air is new: no object of the entry, no pin -/
theorem air_new {B : Heap} {a : Addr} (J : Inv X pins σ H s) (hx : X.ex = []) (nf : a ∉ frs X.stack) (hB : B.get? a = none) (g : ∀ b o, s.heap.get? b = some o → b ∉ frs X.stack → B.get? b = some o) :
    X.s_0.heap.get? a = none ∧ ∀ p ∈ X.pn ++ pins, p.1 ≠ a := by
  have h1 : ∀ o, s.heap.get? a ≠ some o := fun o e => nomatch (g a o e nf).symm.trans hB
  constructor
  · cases q : X.s_0.heap.get? a with
    | none => rfl
    | some o =>
      obtain ⟨o2, e⟩ := J.base.there a o q (hx ▸ List.not_mem_nil)
      exact absurd e (h1 o2)
  · rintro p hp rfl
    exact h1 _ (J.pin p hp).1
theorem fields_out {B : Heap} {l : List Env} {h : Heap} {a : Addr} {o : Obj} {fs : Array Value} (F : h.FunFrames B l) (e : h.get? a = some o) (d : o.data = .fields fs) : a ∉ frs l := by
  intro hm
  obtain ⟨_, o2, e2, no⟩ := F.mem hm
  exact no fs (by rw [e] at e2; cases e2; exact d)
section
variable {x n : Str} {v : Value} {i : Nat} {bd st : List Stmt} {b1 : Stmt} {np p1 p2 : Pos} {tb : WX → TS} {t : TS} {Wo : WX}
/-- try: bd, except x as n: b1, st, where what is caught is kept -/
theorem ps_try_keep (e1 : X.stack = X.env :: X.outer) (e2 : X.env.frame = some X.env.locals) (e3 : X.ex = []) (hN : X.N.Nodup) (hi : X.N[i]? = some n) (hl : X.env.kindOf n = some .local) (gx : Gl X x) (nx : (x == ("__debug__" : Str)) = false) (mx : X.mg x = some v) (tk : Takes X Wo)
    (hb : ∀ W pn xe, Takes (X.tr pn xe) W → PassesOwn (model X.prog X.w) X.A X.env xe → PSs (X.tr pn xe) bd (tb W)) (hsu : ∀ a pn, PSs (X.suite a pn) (b1 :: st) t) :
    PS X (.Try bd [.ExceptHandler (some (.Name x np)) (some n) (b1 :: st) p1] [] [] p2) (fun D => tb (wKp X.K v i t Wo D) D) := by
  constructor
  intro pins s σ H D I h
  have hA := I.ok.frames.trans (congrArg some e1)
  let Ex : Value → Shared → Prop := fun u s1 => wpAny (model X.prog X.w) X.A (noteFrame u X.env) (fun _ s2 => wpAny (model X.prog X.w) X.A (setFlight u none) (fun _ s3 =>
    wpAny (model X.prog X.w) X.A (handleBy u X.env [.ExceptHandler (some (.Name x np)) (some n) (b1 :: st) p1]) (SP X pins D) X.xe s3) X.xe s2) X.xe s1
  have catches : ∀ u s1, XE (X.tr (X.pn ++ pins) Ex) (wKp X.K v i t Wo D) u s1 → Ex u s1 := by
    rintro u s1 ⟨a, B, s0, ps, τ, G, kl, dx, rfl, J0, keep, slots, air, fresh, eo, bare, y, hy, yes, no⟩
    have J : Inv X pins τ G s0 := J0.ofTry I.ok
    have air2 : Sky B (X.env :: X.outer) a (Zc kl dx) X.env.locals s1.heap := e1 ▸ air
    refine Sky.land Zc.steady hA e2 air2 fun h1 F1 U1 => ?_
    obtain ⟨o1, fs1, g1, z1, d1⟩ := F1.there
    have out : a ∉ frs (X.env :: X.outer) := fields_out F1.2.2.1 g1 d1
    have outL : a ≠ X.env.locals := by
      rintro rfl
      exact out (List.mem_filterMap.mpr ⟨_, .head _, e2⟩)
    have outF : a ∉ X.fs := fun m => by
      obtain ⟨en, m1, m2⟩ := List.mem_filterMap.mp m
      exact out (List.mem_filterMap.mpr ⟨en, .tail _ m1, m2⟩)
    obtain ⟨new0, newP⟩ := air_new J e3 (e1 ▸ out) F1.2.1 keep
    have J1 := J.landed (s' := { s1 with heap := h1 }) keep F1.1 (slots.trans U1) eo bare
    refine wpAny_handleBy_cons (codeAny_handlers_test ?_) (fun q => nomatch q)
    refine ld_glob (X := X.suite a ((a, o1) :: (X.pn ++ pins))) (J1.suite g1 d1 fresh outL outF) gx mx ?_ nx
    refine (PySem.W.exm_one (M := model X.prog X.w) J1.kIn (fun _ _ _ _ k q => wpAny_typeOf_ref (k _ _ g1) (z1.1 ▸ q)) hy).here ?_
    cases y
    · -- not of the class: on it goes
      refine wpAny_handleBy_nil ?_
      have go : wpAny (model X.prog X.w) X.A (setFlight (.ref a) X.env.frame) (fun _ s4 => wpAny (model X.prog X.w) X.A (throw (.ref a) : Sem Flow) (SP X pins D) X.xe s4) X.xe { s1 with heap := h1 } :=
        e2 ▸ HandSPX.setFlight_upZ F1 fun h2 F2 U2 => wpAny_throw (tk _ _ ⟨a, B, s0, pins, τ, G, kl, dx, rfl, J, keep, (slots.trans U1).trans U2, .inr (.inr (e1 ▸ F2)), fresh, eo, bare, no rfl⟩)
      obtain ⟨_, _, _, o2, fs2, T, oT, ts, g2, _, d2, f2, _⟩ := F1
      unfold PySem.passOn
      refine wpAny_bind (wpAny_field g2 d2 f2 ?_)
      rw [if_neg (by simp)]
      first | exact wpAny_bind (wpAny_pure (wpAny_bind go)) | exact wpAny_bind go
    · obtain ⟨rfl, yes2⟩ := yes rfl
      refine codeAny_handlers_suite_as (HandSPX.lands_againZ F1 fun h2 F2 U2 => ?_)
      obtain ⟨o2, fs2, g2, z2, d2⟩ := F2.there
      have J2 := J.landed (s' := { s1 with heap := h2 }) keep F2.1 ((slots.trans U1).trans U2) eo bare
      refine store_ok (X := X.suite a ((a, o2) :: (X.pn ++ pins))) (v := .ref a) (J2.suite g2 d2 fresh outL outF) hN hi (.inl hl) rfl (fun s5 S5 => ?_) (.inr hl)
      refine wpAny_mono ((hsu a ((a, o2) :: (X.pn ++ pins))).run [] s5 _ G _ S5 (yes2 a fresh)) (fun f s6 q => ?_) fun _ _ q => q.elim
      cases f
      case next =>
        obtain ⟨τ6, G6, S6, n6, w6⟩ := q
        have pin6 := S6.pin (a, o2) (List.mem_append_left _ (.head _))
        have I6 := S6.unsuite I.ok
        refine gone_ok (I6.track new0 n6 outL (fun y c ec z => ?_) newP (exK_ok pin6.1 z2 d2)) hN hi hl fun s7 I7 => ⟨_, _, I7, w6⟩
        obtain ⟨u, ob, k1, k2⟩ := I6.cell y c ec
        rw [z, pin6.1] at k1
        cases k1
        exact pin6.2.2.2.2 u k2
      case brk => exact q.elim fun _ q => q.elim fun _ q => q.2.elim
      case cont => exact q.elim fun _ q => q.elim fun _ q => q.2.elim
      case ret => exact q.elim fun _ q => q.elim fun _ q => q.elim fun _ q => q.2.2.elim
  refine wpAny_Try_except (wpAny_mono ((hb (wKp X.K v i t Wo D) (X.pn ++ pins) Ex catches PassesOwn.looking).run [] s σ H D (I.toTry _) h) (fun f s1 q => ?_) fun _ _ q => q)
  cases f
  case next => exact q.elim fun τ q => q.elim fun G q => wpAny_execs_nil ⟨τ, G, q.1.ofTry I.ok, q.2⟩
  case brk => exact q.elim fun τ q => q.elim fun G q => ⟨τ, G, q.1.ofTry I.ok, q.2⟩
  case cont => exact q.elim fun τ q => q.elim fun G q => ⟨τ, G, q.1.ofTry I.ok, q.2⟩
  case ret => exact q.elim fun w q => q.elim fun τ q => q.elim fun G q => ⟨w, τ, G, q.1.ofTry I.ok, q.2⟩
end
end
end L2
namespace RT
open PySem PySem.Spec PyProof.Rows L2
section
variable {prog : Program} {w : World} {A : Around} {E : Value → Shared → Prop} {s : Shared}
/-- list(reversed(list)) -/
theorem call_list_rev {it l : Addr} {items : Array Value} {Q : Value → Shared → Prop} (hh : A.handled = none) (hit : s.heap.IsRevIter it l ((items.size : Int) - 1)) (hl : s.heap.IsList l items) (hne : l ≠ it) (hn : items.size ≤ sizeLine)
    (hQ : ∀ (h' : Heap) (tk : Nat) (acc : Array Value) (c' : Nat), (∀ b o, b ≠ it → s.heap.get? b = some o → h'.get? b = some o) → h'.get? s.heap.objs.size = some { cls := .type "list", dict := none, data := .seq acc c', slots := #[] } → ItemsOf (fun i v => items[items.size - 1 - i]? = some v) acc items.size →
      Q (.ref s.heap.objs.size) { s with heap := h', toks := tk }) :
    wpAny (model prog w) A (call (.type "list") [.ref it]) Q E s := by
  have W := (Walks.listRev (prog := prog) (w := w) (A := A.in1.in1) hh it l hne items).toS
  obtain ⟨oi, hoi, _⟩ := id hit
  obtain ⟨ol, hol, _⟩ := id hl
  have hSi : s.heap.objs.size ≠ it := Nat.ne_of_gt (Heap.lt_size hoi)
  have hSl : s.heap.objs.size ≠ l := Nat.ne_of_gt (Heap.lt_size hol)
  have hSf : s.heap.objs.size ∉ [it, l] := by simp only [List.mem_cons, List.not_mem_nil, or_false, not_or]; exact ⟨hSi, hSl⟩
  refine callType_codes (Q₁ := fun obj s₁ => obj = .ref s.heap.objs.size ∧ s₁ = { s with heap := s.heap.push { cls := .type "list", data := .seq #[] } }) F.called_list (F.typeCall_list_1 _) F.entry_list_init
    (code_list_new _ ⟨rfl, rfl⟩) fun obj s₁ h₁ => ?_
  obtain ⟨rfl, rfl⟩ := h₁
  have hS : (s.heap.push { cls := .type "list", data := .seq #[] }).get? s.heap.objs.size = some { cls := .type "list", data := .seq #[] } := Heap.get?_push_size _ rfl
  refine ⟨⟨_, hS, rfl⟩, F.args_list_init_2 _ _, ?_⟩
  show wpAny (model prog w) A.in1.in1 (do let old ← Builtin.List.listItems (.ref s.heap.objs.size); Builtin.List.listUpdate (.ref s.heap.objs.size) (fun _ => #[]); letGo old.toList.reverse; Builtin.List.listExtendWith (.ref s.heap.objs.size) (.ref it) .none) _ _ _
  refine wpAny_bind ?_
  unfold Builtin.List.listItems
  refine wpAny_bind (wpAny_seqItems hS rfl (wpAny_pure ?_))
  show wpAny _ A.in1.in1 (updateSeq s.heap.objs.size (fun _ => #[]) >>= fun _ => letGo (#[] : Array Value).toList.reverse >>= fun _ => Builtin.List.listExtendWith (.ref s.heap.objs.size) (.ref it) .none) _ _ _
  refine wpAny_bind (wpAny_updateSeq hS rfl ?_)
  have hS₂ := Heap.get?_update_self (Obj.mapSeq (fun _ => (#[] : Array Value))) hS rfl
  have oth : ∀ b o, b ≠ s.heap.objs.size → (s.heap.push { cls := .type "list", data := .seq #[] }).get? b = some o → ((s.heap.push { cls := .type "list", data := .seq #[] }).update s.heap.objs.size (Obj.mapSeq (fun _ => (#[] : Array Value)))).get? b = some o :=
    fun b o hb e => (Heap.get?_update_other _ _ (Ne.symm hb)).trans e
  refine wpAny_bind (wpAny_letGo ?_)
  have hit1 : ((s.heap.push { cls := .type "list", data := .seq #[] }).update s.heap.objs.size (Obj.mapSeq (fun _ => (#[] : Array Value)))).IsRevIter it l ((items.size : Int) - 1) := (hit.at fun o e => oth it o hSi.symm (Heap.get?_push_of_some _ e))
  have hl1 : ((s.heap.push { cls := .type "list", data := .seq #[] }).update s.heap.objs.size (Obj.mapSeq (fun _ => (#[] : Array Value)))).IsList l items := (hl.push _).at fun o e => oth l o hSl.symm e
  generalize hS1 : ((s.heap.push { cls := .type "list", data := .seq #[] }).update s.heap.objs.size (Obj.mapSeq (fun _ => (#[] : Array Value)))) = h1 at *
  have hT : ({ s with heap := h1 } : Shared).TypeIs (.ref it) "list_reverseiterator" := Heap.IsRevIter.typeIs (s := { s with heap := h1 }) hit1
  have hsr : Builtin.List.listSameRef (.ref s.heap.objs.size) (.ref it) = false := by simp [Builtin.List.listSameRef, hSi]
  unfold Builtin.List.listExtendWith
  refine wpAny_bind (wpAny_typeOf hT ?_)
  rw [if_neg (by rw [hsr]; decide)]
  refine wpAny_bind (wpAny_pyIter_revIter (s := { s with heap := h1 }) hit1 ?_)
  refine wpAny_bind (wpAny_holding ?_)
  unfold Builtin.List.listLengthHint
  refine wpAny_bind (wpAny_specialOf hT nolen_lri ?_)
  show wpAny _ A.in1.in1 (specialOf (Value.ref it) (Str.ofString "__length_hint__") >>= _) _ _ _
  refine wpAny_bind (wpAny_specialOf hT hint_lri ?_)
  generalize hid : ("list_reverseiterator.__length_hint__" : String) = id0
  wp_delta
  rw [show splitId id0 = some ("list_reverseiterator", "__length_hint__") from by subst hid; decide +kernel]
  subst hid
  refine wpAny_bind (wpAny_isInstance (b := true) hT (by rw [isSubtype_type]; kernel_rfl) ?_)
  refine wpAny_pure ?_
  rw [if_neg (by decide)]
  have e0 : ((items.size : Nat) : Int) - 1 - ((0 : Nat) : Int) = (items.size : Int) - 1 := by omega
  refine wpAny_pure ⟨plainId_quiet F.plain_extend_loop _, codeAny_extend_loopS W hn _ hSf _ items.size 0 _ _ _ rfl (Nat.zero_le _) ⟨Nat.zero_le _, by rw [e0]; exact hit1, hl1⟩ hS₂ (ItemsOf.nil _) fun s' acc' c' hm hS' hacc => ?_⟩
  refine ⟨rfl, ?_⟩
  rw [Moved.eq_with hm]
  refine hQ s'.heap s'.toks acc' c' (fun b o hb e => ?_) hS' hacc
  have hbS : b ≠ s.heap.objs.size := Nat.ne_of_lt (Heap.lt_size e)
  refine hm.heap b o (fun hmem => ?_) ?_
  · rcases List.mem_cons.mp hmem with e' | hmem
    · exact hbS e'
    · exact hb (List.mem_singleton.mp hmem)
  · exact oth b o hbS (Heap.get?_push_of_some _ e)
end
end RT
namespace L2
open PySem PySem.Spec PyProof.Rows RT
section
variable {X : Cx}
def tLstRev (K : PySem.W.Frag) (te : TE) : TE := fun σ H Q => te σ H fun v H1 => ∃ (a : Addr) (xs : List V), v = .ref a ∧ SqL K H1 a xs ∧ ∀ q, H1 q = none → Q (.ref q) (upd H1 q (.lst xs.reverse))
theorem pe_lstRev {e : Expr} {te : TE} {p p2 pos pos2 : Pos} (hc : X.calm = true) (hg : Gl X "list") (hm : X.mg "list" = none) (hg2 : Gl X "reversed") (hm2 : X.mg "reversed" = none) (he : PE X e te)
    (hs : starEach [e] X.env = (false, eval e X.env) :: starEach [] X.env := by rfl)
    (hs2 : starEach [.Call (.Name "reversed" p2) [e] [] pos2] X.env = (false, eval (.Call (.Name "reversed" p2) [e] [] pos2) X.env) :: starEach [] X.env := by rfl) :
    PE X (.Call (.Name "list" p) [.Call (.Name "reversed" p2) [e] [] pos2] [] pos) (tLstRev X.K te) := by
  refine ⟨fun pins s σ H Q I h => ?_⟩
  refine Call_ (ld_blt I hg hm PyProof.Rows.boot_list (PyProof.Rows.callWith_type1 (args_cons (Call_ (ld_blt I hg2 hm2 PyProof.Rows.boot_reversed (PyProof.Rows.callWith_type1 (args_cons (thn (he.run pins s σ H _ I h) fun u s1 ⟨v, H1, I1, r1, q1⟩ => args_nil ?_) hs) hs rfl))) hs2) hs2 rfl))
  obtain ⟨a, xs, ev, hq, q⟩ := q1
  subst ev
  obtain rfl : u = Value.ref a := r1
  obtain ⟨its, rv, p', hz⟩ := I1.list hq
  refine call_reversed_list p'.isList (args_nil ?_)
  have k0 : ∀ b o, s1.heap.get? b = some o → (s1.heap.push (revObj a ((its.toArray.size : Int) - 1))).get? b = some o := fun b o e => Heap.get?_push_of_some _ e
  have I2 : Inv X pins σ H1 { s1 with heap := s1.heap.push (revObj a ((its.toArray.size : Int) - 1)) } := I1.kept (t' := s1.toks) k0
  obtain ⟨f0, f1, f2, f3, f4, f5⟩ := I1.fpOk (H' := H1) (b := s1.heap.objs.size) (Nat.le_refl _) (I1.hok.fresh (Nat.le_refl _))
  have hl := p'.isList
  obtain ⟨ol, hol, _⟩ := id hl
  have hne : a ≠ s1.heap.objs.size := Nat.ne_of_lt (Heap.lt_size hol)
  have hn : its.toArray.size ≤ sizeLine := by rw [List.size_toArray, ← rv.length]; exact hz
  have hsz2 : (s1.heap.push (revObj a ((its.toArray.size : Int) - 1))).objs.size = s1.heap.objs.size + 1 := Heap.size_push ..
  refine call_list_rev (s := { s1 with heap := s1.heap.push (revObj a ((its.toArray.size : Int) - 1)) }) (I1.ok.hd hc) ⟨_, Heap.get?_push_size _ rfl, rfl, rfl⟩ (hl.push _) hne hn fun h' tk acc c' hk hS hi => ?_
  have I3 : Inv X pins σ H1 { s1 with heap := h', toks := tk } := I2.turned (t' := tk) (fun b o hb e => hk b o hb e) f0 f1 f3 f4 f5
  have fr : H1 (s1.heap.push (revObj a ((its.toArray.size : Int) - 1))).objs.size = none := I2.hok.fresh (Nat.le_refl _)
  have lt2 : ∀ {b : Addr} {o : Obj}, (s1.heap.push (revObj a ((its.toArray.size : Int) - 1))).get? b = some o → b ≠ (s1.heap.push (revObj a ((its.toArray.size : Int) - 1))).objs.size := fun e => Nat.ne_of_lt (Heap.lt_size e)
  refine ⟨.ref _, upd H1 (s1.heap.push (revObj a ((its.toArray.size : Int) - 1))).objs.size (.lst xs.reverse), I3.track (Heap.get?_none_of_le I2.sz) fr (Nat.ne_of_gt I2.lt) (fun x c e => ?_) (fun p hp => ?_) ⟨by rw [List.length_reverse]; exact hz, acc.toList, c', vals_rev rv hi, ?_⟩, rfl, q _ fr⟩
  · obtain ⟨v, o, ho, _⟩ := I2.cell x c e
    exact lt2 ho
  · exact lt2 (I2.pin p hp).1
  · rw [Array.toArray_toList]
    exact hS
end
end L2
namespace MP
open PySem PySem.Spec PyProof.Rows L2 LamX NdefX
theorem bl_vals : ∀ {bs : List Bool} {its : List Value}, Vals (bs.map V.bl) its → its = bs.map Value.bool
  | [], _, h => by cases h; rfl
  | b :: bs, _, h => by
    cases h with
    | cons r t =>
      rw [bl_vals t]
      rw [show _ = Value.bool b from r]
      rfl
theorem preSum_B (bs : List Bool) : ∀ j, j ≤ bs.length → preSum (fun i => if bs.getD i false = true then 1 else 0) j = cntB (bs.take j)
  | 0, _ => rfl
  | j + 1, h => by
    rw [preSum, preSum_B bs j (by omega)]
    have e : bs.take (j + 1) = bs.take j ++ [bs.getD j false] := by
      rw [List.take_add_one, List.getElem?_eq_getElem (by omega), List.getD_eq_getElem?_getD, List.getElem?_eq_getElem (by omega)]; rfl
    rw [e]
    generalize bs.getD j false = b
    have app : ∀ l : List Bool, cntB (l ++ [b]) = cntB l + (if b = true then 1 else 0) := by
      intro l
      induction l with
      | nil => simp [cntB]
      | cons x l ih => simp only [List.cons_append, cntB, ih]; omega
    rw [app]
theorem call_sumB {X : Cx} (hc : X.calm = true) : CallR X (.builtin "sum") (fun xs H Q => ∃ p bs, xs = [.ref p] ∧ SqL X.K H p (bs.map V.bl) ∧ Q (.int (cntB bs)) H) := by
  intro pins s σ H vs us Q I r h
  obtain ⟨p, bs, rfl, hs, q⟩ := h
  obtain ⟨its, rv, hl, _⟩ := I.list hs
  rw [Vals.ref1 r]
  have ei := bl_vals rv
  have hl' := hl.isList
  have hlt : p < s.heap.objs.size := by obtain ⟨_, e, _⟩ := hl'; exact Heap.lt_size e
  have hh : X.A.in1.handled = none := I.ok.hd hc
  refine call_sum_walkAnyB (wpAny_pyIter_list hl' ⟨s.heap.objs.size, [s.heap.objs.size, p], [s.heap.objs.size], _, its.toArray.size, _, _, fun i => if bs.getD i false = true then 1 else 0, rfl, (Walks.list hh _ p (Nat.ne_of_lt hlt) its.toArray).toS, ⟨⟨_, Heap.get?_push_size _ rfl, rfl, rfl⟩, hl'.push _⟩, fun b hb => ?_, fun i v hv => ?_, fun s' t' hm => ?_⟩)
  · show b < (s.heap.push _).objs.size
    rw [Heap.size_push]
    rcases List.mem_cons.mp hb with rfl | hb
    · exact Nat.lt_succ_self _
    · rcases List.mem_cons.mp hb with rfl | hb
      · exact Nat.lt_succ_of_lt hlt
      · cases hb
  · right
    rw [ei] at hv
    have hv : (bs.map Value.bool)[i]? = some v := by simpa using hv
    rw [List.getElem?_map] at hv
    cases e : bs[i]? with
    | none => rw [e] at hv; cases hv
    | some b =>
      rw [e] at hv
      cases hv
      exact ⟨b, rfl, by dsimp only; rw [List.getD_eq_getElem?_getD, e]; rfl⟩
  · have e := preSum_B bs its.toArray.size (by rw [ei]; simp)
    rw [List.take_of_length_le (by rw [ei]; simp)] at e
    rw [e, Moved.eq_with hm]
    exact ⟨.int _, H, I.kept (t' := s'.toks) fun b o eo => hm.heap b o (fun hmem => by
      have := Heap.lt_size eo
      rcases List.mem_cons.mp hmem with rfl | hmem
      · exact Nat.lt_irrefl _ this
      · cases hmem) (Heap.get?_push_of_some _ eo), ⟨_, rfl⟩, q⟩
/-- a op1 b op2 c op3 d -/
def tChain3 (r r' r'' : R2) (ta tb tc td : TE) : TE := fun σ H Q => ta σ H fun x H1 => tb σ H1 fun y H2 => r x y H2 fun z H3 => ∃ k, z = .bl k ∧
  (if k = true then tc σ H3 fun w' H4 => r' y w' H4 fun z' H5 => ∃ k', z' = .bl k' ∧ (if k' = true then td σ H5 fun w'' H6 => r'' w' w'' H6 Q else Q (.bl false) H5) else Q (.bl false) H3)
section
variable {X : Cx} {a b c d : Expr} {ta tb tc td : TE} {pos : Pos}
theorem pe_chain3 {op op' op'' : CmpOp} {r r' r'' : R2} (ho : OpR X (compareOp op) r) (ho' : OpR X (compareOp op') r') (ho'' : OpR X (compareOp op'') r'') (ha : PE X a ta) (hb : PE X b tb) (hc : PE X c tc) (hd : PE X d td)
    (hm : lastMarks [op, op', op''] [b, c, d] = false := by with_unfolding_all rfl) : PE X (.Compare a [op, op', op''] [b, c, d] pos) (tChain3 r r' r'' ta tb tc td) := by
  refine ⟨fun pins s σ H Q I h => ?_⟩
  refine Compare_chain (thn (ha.run pins s σ H _ I h) fun v s1 ⟨x, H1, I1, r1, q1⟩ => chain_link (thn (hb.run pins s1 σ H1 _ I1 q1) fun u s2 ⟨y, H2, I2, r2, q2⟩ =>
    thn (ho pins s2 σ H2 x y v u _ I2 r1 r2 q2) fun d' s3 ⟨z, H3, I3, r3, k, e, q3⟩ => ?_)) hm
  subst e
  cases r3
  refine wpAny_truthy_bool ?_
  cases k with
  | false => exact ite_ff ⟨.bl false, H3, I3, rfl, q3⟩
  | true =>
    refine ite_tt (chain_link (thn (hc.run pins s3 σ H3 _ I3 q3) fun w' s4 ⟨z', H4, I4, r4, q4⟩ => thn (ho' pins s4 σ H4 y z' u w' _ I4 r2 r4 q4) fun d2 s5 ⟨z2, H5, I5, r5, k2, e2, q5⟩ => ?_))
    subst e2
    cases r5
    refine wpAny_truthy_bool ?_
    cases k2 with
    | false => exact ite_ff ⟨.bl false, H5, I5, rfl, q5⟩
    | true => exact ite_tt (chain_last (thn (hd.run pins s5 σ H5 _ I5 q5) fun w2 s6 ⟨z3, H6, I6, r6, q6⟩ => ho'' pins s6 σ H6 z' z3 w' w2 Q I6 r4 r6 q6))
theorem pt_chain3 {op op' op'' : CmpOp} {r r' r'' : R2} (ho : OpR X (compareOp op) r) (ho' : OpR X (compareOp op') r') (ho'' : OpR X (compareOp op'') r'') (ha : PE X a ta) (hb : PE X b tb) (hc : PE X c tc) (hd : PE X d td)
    (hm : lastMarks [op, op', op''] [b, c, d] = false := by with_unfolding_all rfl) : PT X (.Compare a [op, op', op''] [b, c, d] pos) (tTest (tChain3 r r' r'' ta tb tc td)) := by
  refine ⟨fun pins s σ H Q I h => ?_⟩
  refine isTrue_chain (thn (ha.run pins s σ H _ I h) fun v s1 ⟨x, H1, I1, r1, q1⟩ => test_link (thn (hb.run pins s1 σ H1 _ I1 q1) fun u s2 ⟨y, H2, I2, r2, q2⟩ =>
    thn (ho pins s2 σ H2 x y v u _ I2 r1 r2 q2) fun d' s3 ⟨z, H3, I3, r3, k, e, q3⟩ => ?_)) hm
  subst e
  cases r3
  refine wpAny_truthy_bool ?_
  cases k with
  | false =>
    obtain ⟨k', e', q'⟩ := q3
    cases e'
    exact ite_ff ⟨H3, I3, q'⟩
  | true =>
    refine ite_tt (test_link (thn (hc.run pins s3 σ H3 _ I3 q3) fun w' s4 ⟨z', H4, I4, r4, q4⟩ => thn (ho' pins s4 σ H4 y z' u w' _ I4 r2 r4 q4) fun d2 s5 ⟨z2, H5, I5, r5, k2, e2, q5⟩ => ?_))
    subst e2
    cases r5
    refine wpAny_truthy_bool ?_
    cases k2 with
    | false =>
      obtain ⟨k', e', q'⟩ := q5
      cases e'
      exact ite_ff ⟨H5, I5, q'⟩
    | true =>
      refine ite_tt (test_last (thn (hd.run pins s5 σ H5 _ I5 q5) fun w2 s6 ⟨z3, H6, I6, r6, q6⟩ => thn (ho'' pins s6 σ H6 z' z3 w' w2 _ I6 r4 r6 q6) fun d3 s7 ⟨z4, H7, I7, r7, k3, e3, q7⟩ => ?_))
      subst e3
      cases r7
      exact wpAny_truthy_bool ⟨H7, I7, q7⟩
end
end MP
namespace MP
open PySem PySem.Spec PyProof.Rows L2 LamX NdefX

/-! ### lambdas as values -/
/-- at f lies the lambda with the words F and the expression b -/
def LamO (f : Addr) (F : NF) (b : Expr) : HO :=
  .ext fun hp => ∃ (dx : Option Addr) (ss : Array (Option Value)) (m t : Value),
    hp.get? f = some (⟨.type "function", dx, .func (PySem.W.kla_fn F.name F.qual F.params b F.scope F.cl m (.ref F.c) t), ss⟩ : Obj)
theorem lamO_tbl {f : Addr} {F : NF} {b : Expr} (ps : Array Value) : LamO f F b ≠ .tbl ps := fun z => by unfold LamO at z; cases z
theorem codeO_tbl {f : Addr} {q : Str} (ps : Array Value) : CodeO f q ≠ .tbl ps := fun z => by unfold CodeO at z; cases z
theorem lamO_at {p : Program} {wd : World} {G : Hp} {hp : Heap} {f : Addr} {F : NF} {b : Expr} (ok : HOk p wd G hp) (e : G f = some (LamO f F b)) :
    ∃ (dx : Option Addr) (ss : Array (Option Value)) (m t : Value), hp.get? f = some (⟨.type "function", dx, .func (PySem.W.kla_fn F.name F.qual F.params b F.scope F.cl m (.ref F.c) t), ss⟩ : Obj) := (ok f _ e).1
/-- a lambda is called -/
theorem lam_run {Cg : CXT} {p : Program} {wd : World} {Kf : PySem.W.Frag} {gl : Str → Option Value} {bs : Heap} {N ps fr : List Str} {F : NF} {b : Expr} {f : Addr} {k : Nat} {Ar : Around} {out : List PySem.Env} {sh : Shared} {G : Hp} {us : List Value} {vs : List V}
    {ws : List (Option V)} {R : VK} {E : XK} (S : NScope N ps fr F.scope) (bd : ∀ (m t : Value) (us : List Value), us.length = ps.length → bindArgs (PySem.W.kla_fn F.name F.qual F.params b F.scope F.cl m (.ref F.c) t) ⟨us, []⟩ = pure (ps.zip us))
    (room : Room (k + 1) Ar) (e0 : Env0 p wd Kf gl bs Ar out sh G) (hf : G f = some (LamO f F b)) (hc : G F.c = some (CodeO F.c F.qual)) (C : CellsAt F.cl fr ws sh.heap G) (rv : Vals vs us) (hl : vs.length = ps.length)
    (body : Room k (Ar.deeper (envF F f sh.heap.objs.size)) → ∃ t, PE (ncx Cg p wd Kf gl bs N F f Ar out sh G E) b t ∧ t (startF N vs ws) G R) :
    codeAny (model p wd) Ar (.call (.ref f) ⟨us, []⟩) (CR Cg out p wd G sh R E) sh := by
  obtain ⟨dx, ss, m, t0, o1⟩ := lamO_at e0.hok hf
  obtain ⟨⟨oc, wv, tq, q1, q2, q3⟩, _⟩ := e0.hok F.c _ hc
  have nl : sh.heap.NoLimit := e0.mod.nolimit.keeps fun a o e => (e0.bs a o e).1
  have eb := bd m t0 us (rv.length.symm.trans hl)
  refine PySem.W.kla_callFunE room.depth o1 rfl S.co S.gen rfl ⟨F.c, oc, wv, tq, rfl, q1, q2, q3⟩ ?_
  rw [eb]
  refine wpAny_pure ?_
  refine wpAny_newFunctionEnv S.nocell (fun y hy => S.par y.1 (List.of_mem_zip hy).1) (fun hq ns sb => ⟨nl.fresh _ sb, ?_⟩) S.kind
  show codeAny (model p wd) Ar (.expr b (envF F f sh.heap.objs.size)) _ _
  have J : Inv (ncx Cg p wd Kf gl bs N F f Ar out sh G E) [] (startF N vs ws) G { sh with heap := hq, toks := sh.toks + (ps.zip us).length } :=
    inv_startN S room.hd e0 hl rv C ns fun a o e => sb.extBut a o (Nat.ne_of_lt (Heap.lt_size e)) (Heap.get?_push_of_some _ e)
  obtain ⟨t, ht, q⟩ := body (room.deeper _)
  refine PySem.W.kla_codeExpr (wpAny_mono (ht.run [] _ _ G R J q) (fun u s1 ⟨x, G1, J1, r1, q1⟩ => ?_) fun _ _ q => q)
  exact ⟨x, G1, J1.os, J1.bare, J1.base, J1.hok, r1, q1⟩
theorem clo_nil {cells : List (Str × Addr)} : ∀ {names : List (Str × NameKind)}, (∀ y ∈ names, y.2 ≠ .free) → cloFrom cells names [] = [] := fun {names} h => by
  cases e : cloFrom cells names [] with
  | nil => rfl
  | cons a r =>
    have hm : a ∈ cloFrom cells names [] := by rw [e]; exact List.mem_cons_self
    rcases cloFrom_mem hm with q | ⟨q, _⟩
    · cases q
    · exact absurd rfl (h _ q)
section
variable {X : Cx} {pins : List (Addr × Obj)} {τ : L2.St} {G : Hp} {sh : Shared}
/-- a lambda's object that is new is known from now on -/
theorem inv_lam {F : NF} {b : Expr} {tk : Nat} {m t : Value} {hp : Heap} (I : Inv X pins τ G { sh with heap := hp, toks := tk }) :
    Inv X pins τ (upd G hp.objs.size (LamO hp.objs.size F b)) { sh with heap := hp.push { cls := .type "function", data := .func (PySem.W.kla_fn F.name F.qual F.params b F.scope F.cl m (.ref F.c) t) }, toks := tk } := by
  refine I.laid (a := hp.objs.size) (fun _ _ e => Heap.get?_push_of_some _ e) (Nat.le_refl _) ?_
  have at_ : (hp.push ({ cls := .type "function", data := .func (PySem.W.kla_fn F.name F.qual F.params b F.scope F.cl m (.ref F.c) t) } : Obj)).get? hp.objs.size = some _ := Heap.get?_push_size _ rfl
  exact ⟨⟨_, _, m, t, at_⟩, ⟨_, at_⟩, fun _ _ ⟨d, sl, m', t', z⟩ keep => ⟨d, sl, m', t', keep _ z⟩⟩
theorem upd_non {G : Hp} {a b : Addr} {o : HO} (e : upd G a o b = none) : G b = none := by
  by_cases h : b = a
  · rw [h, upd_same] at e; cases e
  · rw [upd_ne h] at e; exact e
/-- lambda ..: b -/
theorem lam_mk {tbs : List (Addr × Str)} {co P : Addr} {ps : Arguments} {b : Expr} {sc : Scope} {pos : Pos} {E R : Value → Shared → Prop} (I : Inv X pins τ G sh) (TB : TabB X.base X.mg co P) (ec : X.env.code = .ref co) (nodef : defaultsOf ps X.env = ([], []))
    (there : (P, X.env.qual ++ "<lambda>") ∈ tbs) (only : ∀ p ∈ tbs, p.1 = P → p.2 = X.env.qual ++ "<lambda>") (tb : Tabs tbs G) (fr : ∀ y ∈ sc.names, y.2 = .free → ∃ c, X.env.cells.lookup y.1 = some c)
    (k : ∀ (f c : Addr) (G1 : Hp) (s1 : Shared), Inv X pins τ G1 s1 → ExtN G G1 → (∀ b, G1 b = none → G b = none) → Tabs tbs G1 → G f = none →
      G1 f = some (LamO f ⟨"<lambda>", X.env.qual ++ "<lambda>", ps, [], sc, cloFrom X.env.cells sc.names [], c⟩ b) → G1 c = some (CodeO c (X.env.qual ++ "<lambda>")) → R (.ref f) s1) :
    wpAny (model X.prog X.w) X.A (eval (.Lambda ps b sc pos) X.env) R E sh := by
  obtain ⟨old, aP, trp, named⟩ := tb _ there
  have bmP : sh.heap.BuiltinsAt X.mg P := TB.bm.keeps I.bk
  have oP : sh.heap.get? P = some { cls := .none, data := .fields old } := I.hok P _ aP
  have gN := I.mod.glob.keeps I.bk
  have hdC := TB.code.keeps I.bk
  refine PySem.W.kla_eval nodef ?_
  cases am : codeAmong pos old.toList with
  | some cv =>
    obtain ⟨c, rfl, inC⟩ := named pos cv am
    refine PySem.W.kla_makeFunctionHit (mg := X.mg) (c := co) (P := P) (ps := old) (closure_ok fr) I.ok.glob gN ec hdC oP trp am bmP fun ctv hp tk grown _ => ?_
    have nf : ∀ {I' : Inv X pins τ G { sh with heap := hp, toks := tk }}, G hp.objs.size = none := fun {I'} => I'.hok.fresh (Nat.le_refl _)
    have I1 : Inv X pins τ G { sh with heap := hp, toks := tk } := I.kept grown
    have nf := nf (I' := I1)
    have I2 := inv_lam (F := ⟨"<lambda>", X.env.qual ++ "<lambda>", ps, [], sc, cloFrom X.env.cells sc.names [], c⟩) (b := b) (m := (X.mg "__name__").getD .none) (t := ctv) I1
    have stay : ∀ a o, G a = some o → upd G hp.objs.size (LamO hp.objs.size ⟨"<lambda>", X.env.qual ++ "<lambda>", ps, [], sc, cloFrom X.env.cells sc.names [], c⟩ b) a = some o := fun a o e => (upd_ne (ne_of_none e nf)).trans e
    exact k hp.objs.size c _ _ I2 (.of stay) (fun a e => upd_non e) (tb.ext stay) nf upd_same (stay _ _ inC)
  | none =>
    refine PySem.W.kla_makeFunction (mg := X.mg) (c := co) (P := P) (ps := old) (closure_ok fr) I.ok.glob gN ec hdC oP trp am TB.gP bmP fun c ctv hp tk oth lo hi rec_ tabNow => ?_
    obtain ⟨c2, oc, wv, tq, e2, r1, r2, r3⟩ := rec_
    cases e2
    have fresh_c : G c = none := I.hok.fresh lo
    have P_c : P ≠ c := ne_of_none aP fresh_c
    have I1 := inv_table (t' := tk) (more := #[rawInt pos.line, rawInt pos.col, .ref c]) (h' := hp) I aP (fun a o ne e => oth a o ne e) tabNow lo ⟨oc, wv, tq, r1, r2, r3⟩
    have eq1 : ∀ a o, G a = some o → (∀ qs, o ≠ .tbl qs) → upd (upd G P (.tbl (old ++ #[rawInt pos.line, rawInt pos.col, .ref c]))) c (CodeO c (X.env.qual ++ "<lambda>")) a = some o := fun a o e n => by
      have a_c : a ≠ c := ne_of_none e fresh_c
      have a_P : a ≠ P := fun z => by
        rw [z, aP] at e
        exact n _ (Option.some.inj e).symm
      rw [upd_ne a_c, upd_ne a_P]; exact e
    have asList : (old ++ #[rawInt pos.line, rawInt pos.col, .ref c]).toList = old.toList ++ [rawInt pos.line, rawInt pos.col, .ref c] := by simp
    have tb1 : Tabs tbs (upd (upd G P (.tbl (old ++ #[rawInt pos.line, rawInt pos.col, .ref c]))) c (CodeO c (X.env.qual ++ "<lambda>"))) := by
      intro p hp'
      by_cases at_P : p.1 = P
      · rw [only p hp' at_P, at_P]
        refine ⟨_, (upd_ne P_c).trans upd_same, asList ▸ PySem.TriplesOk_snoc _ _ _ _ trp, fun p' cv z => ?_⟩
        rcases among_app _ trp (asList ▸ z) with z | z
        · obtain ⟨c0, z1, z2⟩ := named p' cv z
          exact ⟨c0, z1, eq1 _ _ z2 codeO_tbl⟩
        · exact ⟨c, z, upd_same⟩
      · obtain ⟨qs, b1, b2, b3⟩ := tb p hp'
        refine ⟨qs, (upd_ne (ne_of_none b1 fresh_c)).trans ((upd_ne at_P).trans b1), b2, fun p' cv z => ?_⟩
        obtain ⟨c0, z1, z2⟩ := b3 p' cv z
        exact ⟨c0, z1, eq1 _ _ z2 codeO_tbl⟩
    have nf := I1.hok.fresh (Nat.le_refl hp.objs.size)
    have I2 := inv_lam (F := ⟨"<lambda>", X.env.qual ++ "<lambda>", ps, [], sc, cloFrom X.env.cells sc.names [], c⟩) (b := b) (m := (X.mg "__name__").getD .none) (t := ctv) I1
    have stay : ∀ a o, upd (upd G P (.tbl (old ++ #[rawInt pos.line, rawInt pos.col, .ref c]))) c (CodeO c (X.env.qual ++ "<lambda>")) a = some o →
        upd (upd (upd G P (.tbl (old ++ #[rawInt pos.line, rawInt pos.col, .ref c]))) c (CodeO c (X.env.qual ++ "<lambda>"))) hp.objs.size (LamO hp.objs.size ⟨"<lambda>", X.env.qual ++ "<lambda>", ps, [], sc, cloFrom X.env.cells sc.names [], c⟩ b) a = some o := fun a o e => (upd_ne (ne_of_none e nf)).trans e
    exact k hp.objs.size c _ _ I2 (fun a o e n => stay a o (eq1 a o e n)) (fun a e => upd_non (upd_non (upd_non e))) (tb1.ext stay) (I.hok.fresh (Nat.le_trans lo (Nat.le_of_lt hi))) upd_same (stay _ _ upd_same)
end

structure Cn where
  K : PySem.W.Frag
  exc : Str → Option Addr
  fn : FK → Option Addr
  cls : Str → Option Addr
  /-- lists that are being made: no data lie there yet -/
  φ : List Addr
  /-- which lambda bears the name -/
  lam : Str → NF → Expr → Prop
  /-- the makers' tables of code objects -/
  tbs : List (Addr × Str)
/-- what a cell may lie at -/
def MutC : Option HO → Prop
  | some (.lst _) => True
  | some (.ins _ _ _) => True
  | some (.dK _) => True
  | _ => False
theorem MutC.mut {o : Option HO} (h : MutC o) : Mut o := by
  cases o with
  | none => exact h
  | some u => cases u <;> first | exact True.intro | exact h
theorem tabs_upd {T : List (Addr × Str)} {H : Hp} {p : Addr} {o : HO} (t : Tabs T H) (h : H p = none ∨ MutC (H p)) : Tabs T (upd H p o) := by
  have st : ∀ b u, H b = some u → ¬ MutC (some u) → upd H p o b = some u := fun b u e n => by
    refine (upd_ne fun z => ?_).trans e
    rw [z] at e
    rcases h with h | h
    · rw [e] at h; cases h
    · rw [e] at h; exact n h
  intro q hq
  obtain ⟨ps, h1, h2, h3⟩ := t q hq
  exact ⟨ps, st _ _ h1 id, h2, fun pos cv z => let ⟨c, e1, e2⟩ := h3 pos cv z; ⟨c, e1, st _ _ e2 id⟩⟩
mutual
inductive Rep (c : Cn) (α : Nat → Addr) (s : Sto) (H : Hp) : V → D → Prop
  | non : Rep c α s H .non .non
  | bl (b : Bool) : Rep c α s H (.bl b) (.bl b)
  | int (i : Int) : Rep c α s H (.int i) (.int i)
  | str (x : Str) : Rep c α s H (.str x) (.str x)
  | tup {a : Addr} {vs : List V} {ds : List D} : SqT c.K H a vs → RepL c α s H vs ds → Rep c α s H (.ref a) (.tup ds)
  | lst {a : Addr} {vs : List V} {ds : List D} : H a = some (.lst vs) → (∀ i, s.m i ≠ none → α i ≠ a) → a ∉ c.φ → RepL c α s H vs ds → Rep c α s H (.ref a) (.lst ds)
  | scr {a : Addr} {ns : List Int} : ((∃ o, H a = some (.frz o (.lst (ns.map V.int)))) ∨ (∃ (o : Obj) (its : Array Value) (n : Nat), c.K.lookup a = some o ∧ o.cls = .type "list" ∧ o.dict = none ∧ o.data = .seq its n ∧ its.size ≤ sizeLine ∧ Vals (ns.map V.int) its.toList)) → Rep c α s H (.ref a) (.scr ns)
  | cell {i : Nat} {v : V} : i < s.nx → (s.m i ≠ none → v = .ref (α i)) → Rep c α s H v (.cell i)
  | fn {x : Str} {a : Addr} : c.fn (.f x) = some a → Rep c α s H (.ref a) (.fn x)
  | lam {x : Str} {a : Addr} {F : NF} {b : Expr} : c.lam x F b → H a = some (LamO a F b) → H F.c = some (CodeO F.c F.qual) → Rep c α s H (.ref a) (.fn x)
  | scrL {a : Addr} {ns : List Int} : H a = some (.lst (ns.map V.int)) → (∀ i, s.m i ≠ none → α i ≠ a) → a ∉ c.φ → Rep c α s H (.ref a) (.scr ns)
  | ty (n : String) : Rep c α s H (.ty n) (.ty n)
  | ex {a Ca : Addr} {C : Str} : c.exc C = some Ca → H a = some (ExK (.ref Ca) a) → (∀ i, s.m i ≠ none → α i ≠ a) → a ∉ c.φ → Rep c α s H (.ref a) (.ex C)
  | dks {a : Addr} {o : Obj} {kvs : List (Key × V)} {ks : List Key} : H a = some (.frz o (.dK kvs)) → kvs.map (·.1) = ks → Rep c α s H (.ref a) (.dks ks)
inductive RepL (c : Cn) (α : Nat → Addr) (s : Sto) (H : Hp) : List V → List D → Prop
  | nil : RepL c α s H [] []
  | cons {v : V} {d : D} {vs : List V} {ds : List D} : Rep c α s H v d → RepL c α s H vs ds → RepL c α s H (v :: vs) (d :: ds)
end

/-- what a piece of a run does to the state -/
structure Le (α : Nat → Addr) (s : Sto) (H : Hp) (α' : Nat → Addr) (s' : Sto) (H' : Hp) : Prop where
  nx : s.nx ≤ s'.nx
  old : ∀ i, i < s.nx → s'.m i ≠ none → s.m i ≠ none ∧ α' i = α i
  new : ∀ i, s.nx ≤ i → s'.m i ≠ none → H (α' i) = none
  trk : ∀ b, H b ≠ none → H' b ≠ none
  ext : ∀ b o, H b = some o → (∀ ps, o ≠ .tbl ps) → (MutC (some o) → ∀ i, s.m i ≠ none → α i ≠ b) → H' b = some o

section
variable {c : Cn} {α α' α'' : Nat → Addr} {s s' s'' : Sto} {H H' H'' : Hp}
theorem Le.refl (l : ∀ i, s.m i ≠ none → i < s.nx) : Le α s H α s H :=
  ⟨Nat.le_refl _, fun _ _ h => ⟨h, rfl⟩, fun i h1 h2 => absurd (l i h2) (Nat.not_lt.mpr h1), fun _ h => h, fun _ _ h _ _ => h⟩
theorem Le.trans (a : Le α s H α' s' H') (b : Le α' s' H' α'' s'' H'') : Le α s H α'' s'' H'' where
  nx := Nat.le_trans a.nx b.nx
  old := fun i h1 h2 => by
    obtain ⟨e1, e2⟩ := b.old i (Nat.lt_of_lt_of_le h1 a.nx) h2
    obtain ⟨e3, e4⟩ := a.old i h1 e1
    exact ⟨e3, e2.trans e4⟩
  new := fun i h1 h2 => by
    by_cases hi : i < s'.nx
    · obtain ⟨e1, e2⟩ := b.old i hi h2
      rw [e2]; exact a.new i h1 e1
    · have e := b.new i (Nat.not_lt.mp hi) h2
      cases q : H (α'' i) with
      | none => rfl
      | some o => exact absurd e (a.trk _ (by rw [q]; simp))
  trk := fun b' h => b.trk b' (a.trk b' h)
  ext := fun b' o h1 nt h2 => by
    refine b.ext b' o (a.ext b' o h1 nt h2) nt fun mu i hi => ?_
    by_cases hn : i < s.nx
    · obtain ⟨e3, e4⟩ := a.old i hn hi
      rw [e4]; exact h2 mu i e3
    · intro e
      have := a.new i (Nat.not_lt.mp hn) hi
      rw [e, h1] at this; cases this

theorem rd_ext {a : Addr} {u : HO} (l : Le α s H α' s' H') (nt : ∀ ps, u ≠ .tbl ps) (hu : ¬ MutC (some u)) (h : Rd H a u) : Rd H' a u := by
  rcases h with h | ⟨o, h⟩
  · exact .inl (l.ext _ _ h nt fun mu => absurd mu hu)
  · exact .inr ⟨o, l.ext _ _ h (fun _ z => nomatch z) fun mu => mu.elim⟩
mutual
theorem Rep.mono (l : Le α s H α' s' H') : ∀ {d : D} {v : V}, Rep c α s H v d → Rep c α' s' H' v d
  | .non, _, h => by cases h; exact .non
  | .bl _, _, h => by cases h; exact .bl _
  | .int _, _, h => by cases h; exact .int _
  | .str _, _, h => by cases h; exact .str _
  | .tup ds, _, h => by
    cases h with
    | tup h1 h2 =>
      refine .tup ?_ (RepL.mono l h2)
      rcases h1 with h1 | h1
      · exact .inl (rd_ext l (fun _ z => nomatch z) (fun z => z) h1)
      · exact .inr h1
  | .lst ds, _, h => by
    cases h with
    | lst h1 h2 h4 h3 =>
      refine .lst (l.ext _ _ h1 (fun _ z => nomatch z) fun _ => h2) (fun i hi => ?_) h4 (RepL.mono l h3)
      by_cases hn : i < s.nx
      · obtain ⟨e3, e4⟩ := l.old i hn hi
        rw [e4]; exact h2 i e3
      · intro e
        have := l.new i (Nat.not_lt.mp hn) hi
        rw [e, h1] at this; cases this
  | .scr ns, _, h => by
    cases h with
    | scr h1 =>
      rcases h1 with ⟨o, h1⟩ | h1
      · exact .scr (.inl ⟨o, l.ext _ _ h1 (fun _ z => nomatch z) fun mu => mu.elim⟩)
      · exact .scr (.inr h1)
    | scrL h1 h2 h4 =>
      refine .scrL (l.ext _ _ h1 (fun _ z => nomatch z) fun _ => h2) (fun i hi => ?_) h4
      by_cases hn : i < s.nx
      · obtain ⟨e3, e4⟩ := l.old i hn hi
        rw [e4]; exact h2 i e3
      · intro e
        have := l.new i (Nat.not_lt.mp hn) hi
        rw [e, h1] at this; cases this
  | .cell i, _, h => by
    cases h with
    | cell h1 h2 =>
      refine .cell (Nat.lt_of_lt_of_le h1 l.nx) fun hi => ?_
      obtain ⟨e3, e4⟩ := l.old i h1 hi
      rw [e4]; exact h2 e3
  | .fn x, _, h => by
    cases h with
    | fn h1 => exact .fn h1
    | lam h1 h2 h3 => exact .lam h1 (l.ext _ _ h2 lamO_tbl fun mu => mu.elim) (l.ext _ _ h3 codeO_tbl fun mu => mu.elim)
  | .ty n, _, h => by cases h; exact .ty _
  | .dks ks, _, h => by cases h with | dks h1 h2 => exact .dks (l.ext _ _ h1 (fun _ z => nomatch z) fun mu => mu.elim) h2
  | .ex C, _, h => by
    cases h with
    | ex h0 h1 h2 h4 =>
      refine .ex h0 (l.ext _ _ h1 (fun ps z => by unfold ExK at z; cases z) fun mu => mu.elim) (fun i hi => ?_) h4
      by_cases hn : i < s.nx
      · obtain ⟨e3, e4⟩ := l.old i hn hi
        rw [e4]; exact h2 i e3
      · intro e
        have := l.new i (Nat.not_lt.mp hn) hi
        rw [e, h1] at this; cases this
theorem RepL.mono (l : Le α s H α' s' H') : ∀ {ds : List D} {vs : List V}, RepL c α s H vs ds → RepL c α' s' H' vs ds
  | [], _, h => by cases h; exact .nil
  | d :: ds, _, h => by
    cases h with
    | cons h1 h2 => exact .cons (Rep.mono l h1) (RepL.mono l h2)
end
theorem RepL.length : ∀ {vs : List V} {ds : List D}, RepL c α s H vs ds → vs.length = ds.length
  | _, _, .nil => rfl
  | _, _, .cons _ h => by simp [RepL.length h]
theorem RepL.app : ∀ {vs : List V} {ds : List D} {ws : List V} {es : List D}, RepL c α s H vs ds → RepL c α s H ws es → RepL c α s H (vs ++ ws) (ds ++ es)
  | _, _, _, _, .nil, h => h
  | _, _, _, _, .cons a b, h => .cons a (RepL.app b h)
theorem RepL.rep {vs : List V} {ds : List D} (h : RepL c α s H vs ds) : ∀ n : Nat, RepL c α s H (List.replicate n vs).flatten (List.replicate n ds).flatten
  | 0 => .nil
  | n + 1 => by
    rw [List.replicate_succ, List.replicate_succ, List.flatten_cons, List.flatten_cons]
    exact h.app (RepL.rep h n)
theorem RepL.eraseIdx : ∀ {vs : List V} {ds : List D} (k : Nat), RepL c α s H vs ds → RepL c α s H (vs.eraseIdx k) (ds.eraseIdx k)
  | _, _, _, .nil => .nil
  | _, _, 0, .cons _ b => b
  | _, _, k + 1, .cons a b => .cons a (RepL.eraseIdx k b)
theorem RepL.get : ∀ {vs : List V} {ds : List D} {i : Nat} {d : D}, RepL c α s H vs ds → ds[i]? = some d → ∃ v, vs[i]? = some v ∧ Rep c α s H v d
  | _, _, _, _, .nil, e => by simp at e
  | _, _, 0, _, .cons a _, e => by simp at e; subst e; exact ⟨_, rfl, a⟩
  | _, _, i + 1, _, .cons _ b, e => by simp at e; simpa using RepL.get b e
theorem RepL.take : ∀ {vs : List V} {ds : List D} (n : Nat), RepL c α s H vs ds → RepL c α s H (vs.take n) (ds.take n)
  | _, _, 0, _ => .nil
  | _, _, _ + 1, .nil => .nil
  | _, _, n + 1, .cons a b => .cons a (RepL.take n b)
theorem RepL.drop : ∀ {vs : List V} {ds : List D} (n : Nat), RepL c α s H vs ds → RepL c α s H (vs.drop n) (ds.drop n)
  | _, _, 0, h => h
  | _, _, _ + 1, .nil => .nil
  | _, _, n + 1, .cons _ b => RepL.drop n b
theorem RepL.reverse : ∀ {vs : List V} {ds : List D}, RepL c α s H vs ds → RepL c α s H vs.reverse ds.reverse
  | _, _, .nil => .nil
  | _, _, .cons a b => by simp only [List.reverse_cons]; exact RepL.app (RepL.reverse b) (.cons a .nil)
theorem RepL.dropLast {vs : List V} {ds : List D} (h : RepL c α s H vs ds) : RepL c α s H vs.dropLast ds.dropLast := by
  rw [List.dropLast_eq_take, List.dropLast_eq_take, h.length]; exact h.take _
theorem RepL.set : ∀ {vs : List V} {ds : List D} {v : V} {d : D} (i : Nat), RepL c α s H vs ds → Rep c α s H v d → RepL c α s H (vs.set i v) (ds.set i d)
  | _, _, _, _, _, .nil, _ => .nil
  | _, _, _, _, 0, .cons _ b, h => .cons h b
  | _, _, _, _, i + 1, .cons a b, h => .cons a (RepL.set i b h)
theorem RepL.of_ints : ∀ {ns : List Int}, RepL c α s H (ns.map V.int) (ns.map D.int)
  | [] => .nil
  | _ :: _ => .cons (.int _) RepL.of_ints
theorem RepL.atI {vs : List V} {ds : List D} {i : Int} {d : D} (h : RepL c α s H vs ds) (e : L2.atI ds i = some d) : ∃ v, L2.atI vs i = some v ∧ Rep c α s H v d := by
  unfold L2.atI at e ⊢
  rw [h.length]
  cases q : ixN ds.length i with
  | none => rw [q] at e; cases e
  | some j => rw [q] at e; exact h.get e

abbrev RepF (c : Cn) (α : Nat → Addr) (s : Sto) (H : Hp) : List (Str × V) → List (Str × D) → Prop := Paired fun p q => p.1 = q.1 ∧ Rep c α s H p.2 q.2
theorem RepF.mono (l : Le α s H α' s' H') {vf : List (Str × V)} {fs : List (Str × D)} (h : RepF c α s H vf fs) : RepF c α' s' H' vf fs := Paired.mapP h fun _ _ q => ⟨q.1, q.2.mono l⟩
theorem RepF.lookup {f : Str} : ∀ {vf : List (Str × V)} {fs : List (Str × D)}, RepF c α s H vf fs → (fs.lookup f = none → vf.lookup f = none) ∧ ∀ d, fs.lookup f = some d → ∃ v, vf.lookup f = some v ∧ Rep c α s H v d
  | _, _, .nil => ⟨fun _ => rfl, fun _ h => by cases h⟩
  | (g, v) :: _, (g', d) :: _, .cons ⟨e, r⟩ t => by
    have e : g = g' := e
    subst e
    obtain ⟨h1, h2⟩ := RepF.lookup (f := f) t
    simp only [List.lookup_cons]
    cases hb : f == g with
    | true => exact ⟨(fun h => by cases h), fun d' h => by simp at h; subst h; exact ⟨v, rfl, r⟩⟩
    | false => exact ⟨h1, h2⟩
theorem RepF.put {f : Str} {v : V} {d : D} (r : Rep c α s H v d) : ∀ {vf : List (Str × V)} {fs : List (Str × D)}, RepF c α s H vf fs → RepF c α s H (L2.putF f v vf) (MP.putF f d fs)
  | _, _, .nil => .cons ⟨rfl, r⟩ .nil
  | (g, w) :: _, (g', d') :: _, .cons ⟨e, r'⟩ t => by
    have e : g = g' := e
    subst e
    unfold L2.putF MP.putF
    by_cases hg : g = f
    · rw [if_pos hg, if_pos hg]; exact .cons ⟨rfl, r⟩ t
    · rw [if_neg hg, if_neg hg]; exact .cons ⟨rfl, r'⟩ (RepF.put r t)

abbrev RepK (c : Cn) (α : Nat → Addr) (s : Sto) (H : Hp) : List (Key × V) → List (Key × D) → Prop := Paired fun p q => p.1 = q.1 ∧ Rep c α s H p.2 q.2
theorem RepK.mono (l : Le α s H α' s' H') {vf : List (Key × V)} {fs : List (Key × D)} (h : RepK c α s H vf fs) : RepK c α' s' H' vf fs := Paired.mapP h fun _ _ q => ⟨q.1, q.2.mono l⟩
theorem RepK.keys : ∀ {vf : List (Key × V)} {fs : List (Key × D)}, RepK c α s H vf fs → vf.map (·.1) = fs.map (·.1)
  | _, _, .nil => rfl
  | _, _, .cons e t => by simp only [List.map_cons, e.1, RepK.keys t]
theorem RepK.app : ∀ {vs : List (Key × V)} {ds : List (Key × D)} {ws : List (Key × V)} {es : List (Key × D)}, RepK c α s H vs ds → RepK c α s H ws es → RepK c α s H (vs ++ ws) (ds ++ es)
  | _, _, _, _, .nil, h => h
  | _, _, _, _, .cons a b, h => .cons a (RepK.app b h)
theorem RepK.any {k : Key} : ∀ {vf : List (Key × V)} {fs : List (Key × D)}, RepK c α s H vf fs → (vf.any fun kv => decide (kv.1 = k)) = fs.any fun kv => decide (kv.1 = k)
  | _, _, .nil => rfl
  | _, _, .cons e t => by simp only [List.any_cons, e.1, RepK.any t]
theorem RepK.length : ∀ {vf : List (Key × V)} {fs : List (Key × D)}, RepK c α s H vf fs → vf.length = fs.length
  | _, _, .nil => rfl
  | _, _, .cons e t => by simp only [List.length_cons, RepK.length t]
theorem RepK.repl {k : Key} {v : V} {d : D} (r : Rep c α s H v d) : ∀ {vf : List (Key × V)} {fs : List (Key × D)}, RepK c α s H vf fs → RepK c α s H (vf.map fun kv => if kv.1 = k then (kv.1, v) else kv) (fs.map fun kv => if kv.1 = k then (kv.1, d) else kv)
  | _, _, .nil => .nil
  | (g, w) :: _, (g', d') :: _, .cons ⟨e, q⟩ t => by
    have e : g = g' := e
    subst e
    simp only [List.map_cons]
    by_cases hg : g = k
    · rw [if_pos hg, if_pos hg]; exact .cons ⟨rfl, r⟩ (RepK.repl r t)
    · rw [if_neg hg, if_neg hg]; exact .cons ⟨rfl, q⟩ (RepK.repl r t)
theorem RepK.put {k : Key} {v : V} {d : D} (r : Rep c α s H v d) {vf : List (Key × V)} {fs : List (Key × D)} (h : RepK c α s H vf fs) : RepK c α s H (putK vf k v) (putKD fs k d) := by
  unfold putK putKD
  rw [h.any]
  split
  · exact h.repl r
  · exact h.app (.cons ⟨rfl, r⟩ .nil)
theorem RepK.val {k : Key} : ∀ {vf : List (Key × V)} {fs : List (Key × D)}, RepK c α s H vf fs → (valD fs k = none → valV vf k = none) ∧ ∀ d, valD fs k = some d → ∃ v, valV vf k = some v ∧ Rep c α s H v d
  | _, _, .nil => ⟨fun _ => rfl, fun _ h => by cases h⟩
  | (g, v) :: _, (g', d) :: _, .cons ⟨e, r⟩ t => by
    have e : g = g' := e
    subst e
    obtain ⟨h1, h2⟩ := RepK.val (k := k) t
    by_cases hb : g = k
    · subst hb
      refine ⟨fun h => by simp [valD, List.find?_cons] at h, fun d' h => ?_⟩
      simp [valD, List.find?_cons] at h
      subst h
      exact ⟨v, valV_pos rfl, r⟩
    · have e1 : ∀ r : List (Key × D), valD ((g, d) :: r) k = valD r k := fun r => by simp [valD, List.find?_cons, hb]
      rw [valV_neg hb]
      rw [e1]
      exact ⟨h1, h2⟩

def CellOk (c : Cn) (α : Nat → Addr) (s : Sto) (H : Hp) (a : Addr) : Cell → Prop
  | .lst ds => ∃ vs, H a = some (.lst vs) ∧ RepL c α s H vs ds
  | .ins C fs => ∃ Ca dx vfs, c.cls C = some Ca ∧ H a = some (.ins Ca dx vfs) ∧ RepF c α s H vfs fs
  | .dct kvs => ∃ vs, H a = some (.dK vs) ∧ RepK c α s H vs kvs
theorem CellOk.mut {a : Addr} {x : Cell} (h : CellOk c α s H a x) : Mut (H a) := by
  cases x with
  | lst ds => obtain ⟨vs, e, _⟩ := h; rw [e]; exact True.intro
  | ins C fs => obtain ⟨_, _, _, _, e, _⟩ := h; rw [e]; exact True.intro
  | dct kvs => obtain ⟨_, e, _⟩ := h; rw [e]; exact True.intro
theorem CellOk.mutC {a : Addr} {x : Cell} (h : CellOk c α s H a x) : MutC (H a) := by
  cases x with
  | lst ds => obtain ⟨vs, e, _⟩ := h; rw [e]; exact True.intro
  | ins C fs => obtain ⟨_, _, _, _, e, _⟩ := h; rw [e]; exact True.intro
  | dct kvs => obtain ⟨_, e, _⟩ := h; rw [e]; exact True.intro
theorem CellOk.step {a : Addr} {x : Cell} (l : Le α s H α' s' H') (e : H' a = H a) (h : CellOk c α s H a x) : CellOk c α' s' H' a x := by
  cases x with
  | lst ds => obtain ⟨vs, q, r⟩ := h; exact ⟨vs, e.trans q, r.mono l⟩
  | ins C fs => obtain ⟨Ca, dx, vfs, k, q, r⟩ := h; exact ⟨Ca, dx, vfs, k, e.trans q, r.mono l⟩
  | dct kvs => obtain ⟨vs, q, r⟩ := h; exact ⟨vs, e.trans q, r.mono l⟩

structure Rs (c : Cn) (α : Nat → Addr) (s : Sto) (H : Hp) : Prop where
  inj : ∀ i j, s.m i ≠ none → s.m j ≠ none → α i = α j → i = j
  lt : ∀ i, s.m i ≠ none → i < s.nx
  cell : ∀ i x, s.m i = some x → CellOk c α s H (α i) x
  fr : ∀ i, s.m i ≠ none → α i ∉ c.φ
  tr : ∀ a ∈ c.φ, H a ≠ none
  tb : Tabs c.tbs H
theorem Rs.le (r : Rs c α s H) : Le α s H α s H := Le.refl r.lt
theorem Rs.mut (r : Rs c α s H) {i : Nat} (h : s.m i ≠ none) : Mut (H (α i)) := by
  cases e : s.m i with
  | none => exact absurd e h
  | some x => exact (r.cell i x e).mut

theorem Rs.mutC (r : Rs c α s H) {i : Nat} (h : s.m i ≠ none) : MutC (H (α i)) := by
  cases e : s.m i with
  | none => exact absurd e h
  | some x => exact (r.cell i x e).mutC
theorem Sto.set_m {i j : Nat} {x : Cell} : (s.set i x).m j = if j = i then some x else s.m j := rfl
theorem Sto.set_live {i j : Nat} {x : Cell} (hi : s.m i ≠ none) : (s.set i x).m j ≠ none ↔ s.m j ≠ none := by
  rw [Sto.set_m]
  by_cases h : j = i
  · subst h; simp [hi]
  · simp [h]
/-- a cell is written -/
theorem Le.write (r : Rs c α s H) {i : Nat} {x : Cell} {o : HO} (hi : s.m i ≠ none) : Le α s H α (s.set i x) (upd H (α i) o) where
  nx := Nat.le_refl _
  old := fun j _ h => ⟨(Sto.set_live hi).mp h, rfl⟩
  new := fun j h1 h2 => absurd (r.lt j ((Sto.set_live hi).mp h2)) (Nat.not_lt.mpr h1)
  trk := fun b h => by
    by_cases e : b = α i
    · subst e; rw [upd_same]; simp
    · rw [upd_ne e]; exact h
  ext := fun b u h1 _ h2 => by
    have ne : b ≠ α i := fun e => by
      have mu := r.mutC hi
      rw [← e, h1] at mu
      exact h2 mu i hi e.symm
    rw [upd_ne ne]; exact h1
theorem Rs.write (r : Rs c α s H) {i : Nat} {x : Cell} {o : HO} (hi : s.m i ≠ none) (ok : CellOk c α (s.set i x) (upd H (α i) o) (α i) x) : Rs c α (s.set i x) (upd H (α i) o) where
  inj := fun a b h1 h2 => r.inj a b ((Sto.set_live hi).mp h1) ((Sto.set_live hi).mp h2)
  lt := fun a h => r.lt a ((Sto.set_live hi).mp h)
  cell := fun j y h => by
    rw [Sto.set_m] at h
    by_cases e : j = i
    · subst e; rw [if_pos rfl] at h; cases h; exact ok
    · rw [if_neg e] at h
      refine (r.cell j y h).step (Le.write r hi) (upd_ne fun q => e (r.inj j i (by rw [h]; simp) hi q))
  fr := fun a h => r.fr a ((Sto.set_live hi).mp h)
  tr := fun a h => (Le.write (x := x) r hi).trk a (r.tr a h)
  tb := tabs_upd r.tb (.inr (r.mutC hi))
/-- a new object that is data -/
theorem Le.alloc (r : Rs c α s H) {p : Addr} {o : HO} (hp : H p = none) : Le α s H α s (upd H p o) where
  nx := Nat.le_refl _
  old := fun _ _ h => ⟨h, rfl⟩
  new := fun i h1 h2 => absurd (r.lt i h2) (Nat.not_lt.mpr h1)
  trk := fun b h => by
    by_cases e : b = p
    · subst e; rw [upd_same]; simp
    · rw [upd_ne e]; exact h
  ext := fun b u h1 _ _ => by rw [upd_ne (ne_of_none h1 hp)]; exact h1
theorem Rs.alloc (r : Rs c α s H) {p : Addr} {o : HO} (hp : H p = none) : Rs c α s (upd H p o) where
  inj := r.inj
  lt := r.lt
  cell := fun j y h => (r.cell j y h).step (Le.alloc r hp) (by
    have mu := r.mut (i := j) (by rw [h]; simp)
    refine upd_ne fun e => ?_
    rw [e, hp] at mu; exact mu)
  fr := r.fr
  tr := fun a h => (Le.alloc r hp).trk a (r.tr a h)
  tb := tabs_upd r.tb (.inl hp)
/-- a new cell -/
def αn (α : Nat → Addr) (s : Sto) (p : Addr) : Nat → Addr := fun j => if j = s.nx then p else α j
theorem Sto.new_m {j : Nat} {x : Cell} : (s.new x).m j = if j = s.nx then some x else s.m j := rfl
theorem αn_old {p : Addr} {j : Nat} (h : j < s.nx) : αn α s p j = α j := if_neg (Nat.ne_of_lt h)
theorem αn_new {p : Addr} : αn α s p s.nx = p := if_pos rfl
theorem Le.newc (r : Rs c α s H) {p : Addr} {o : HO} {x : Cell} (hp : H p = none) : Le α s H (αn α s p) (s.new x) (upd H p o) where
  nx := Nat.le_succ _
  old := fun i h1 h2 => by
    rw [Sto.new_m, if_neg (Nat.ne_of_lt h1)] at h2
    exact ⟨h2, αn_old h1⟩
  new := fun i h1 h2 => by
    rw [Sto.new_m] at h2
    by_cases e : i = s.nx
    · subst e; rw [αn_new]; exact hp
    · rw [if_neg e] at h2
      exact absurd (r.lt i h2) (Nat.not_lt.mpr h1)
  trk := (Le.alloc (o := o) r hp).trk
  ext := (Le.alloc (o := o) r hp).ext
theorem Rs.newc (r : Rs c α s H) {p : Addr} {o : HO} {x : Cell} (hp : H p = none) (ok : CellOk c (αn α s p) (s.new x) (upd H p o) p x) : Rs c (αn α s p) (s.new x) (upd H p o) where
  inj := fun a b h1 h2 e => by
    rw [Sto.new_m] at h1 h2
    have live : ∀ j, j ≠ s.nx → s.m j ≠ none → α j ≠ p := fun j hj h z => by
      have mu := r.mut h
      rw [z, hp] at mu; exact mu
    by_cases ea : a = s.nx
    · by_cases eb : b = s.nx
      · rw [ea, eb]
      · rw [if_neg eb] at h2
        subst ea
        rw [αn_new, αn_old (r.lt b h2)] at e
        exact absurd e.symm (live b eb h2)
    · rw [if_neg ea] at h1
      by_cases eb : b = s.nx
      · subst eb
        rw [αn_new, αn_old (r.lt a h1)] at e
        exact absurd e (live a ea h1)
      · rw [if_neg eb] at h2
        rw [αn_old (r.lt a h1), αn_old (r.lt b h2)] at e
        exact r.inj a b h1 h2 e
  lt := fun a h => by
    rw [Sto.new_m] at h
    by_cases ea : a = s.nx
    · subst ea; exact Nat.lt_succ_self _
    · rw [if_neg ea] at h
      exact Nat.lt_succ_of_lt (r.lt a h)
  cell := fun j y h => by
    rw [Sto.new_m] at h
    by_cases e : j = s.nx
    · subst e; rw [if_pos rfl] at h; cases h; rw [αn_new]; exact ok
    · rw [if_neg e] at h
      have hl := r.lt j (by rw [h]; simp)
      rw [αn_old hl]
      refine (r.cell j y h).step (Le.newc r hp) (upd_ne fun z => ?_)
      have mu := r.mut (i := j) (by rw [h]; simp)
      rw [z, hp] at mu; exact mu
  fr := fun a h => by
    rw [Sto.new_m] at h
    by_cases ea : a = s.nx
    · subst ea; rw [αn_new]; exact fun z => r.tr p z hp
    · rw [if_neg ea] at h
      rw [αn_old (r.lt a h)]; exact r.fr a h
  tr := fun a h => (Le.newc (x := x) r hp).trk a (r.tr a h)
  tb := tabs_upd r.tb (.inl hp)
/-- a cell is let go: it is data from now on -/
theorem Sto.del_m {i j : Nat} : (s.del i).m j = if j = i then none else s.m j := rfl
theorem Sto.del_live {i j : Nat} : (s.del i).m j ≠ none → j ≠ i ∧ s.m j ≠ none := by
  rw [Sto.del_m]
  by_cases h : j = i
  · simp [h]
  · simp [h]
theorem Le.del (r : Rs c α s H) {i : Nat} : Le α s H α (s.del i) H where
  nx := Nat.le_refl _
  old := fun j _ h => ⟨(Sto.del_live h).2, rfl⟩
  new := fun j h1 h2 => absurd (r.lt j (Sto.del_live h2).2) (Nat.not_lt.mpr h1)
  trk := fun _ h => h
  ext := fun _ _ h _ _ => h
theorem Rs.del (r : Rs c α s H) {i : Nat} : Rs c α (s.del i) H where
  inj := fun a b h1 h2 => r.inj a b (Sto.del_live h1).2 (Sto.del_live h2).2
  lt := fun a h => r.lt a (Sto.del_live h).2
  cell := fun j y h => by
    rw [Sto.del_m] at h
    by_cases e : j = i
    · rw [if_pos e] at h; cases h
    · rw [if_neg e] at h
      exact (r.cell j y h).step (Le.del r) rfl
  fr := fun a h => r.fr a (Sto.del_live h).2
  tr := r.tr
  tb := r.tb

/-! ### a list that is being made -/
def Cn.add (c : Cn) (D : Addr) : Cn := { c with φ := D :: c.φ }
mutual
theorem Rep.lift {D : Addr} {o : HO} (hD : H D = none) : ∀ {d : MP.D} {v : V}, Rep c α s H v d → Rep (c.add D) α s (upd H D o) v d
  | .non, _, h => by cases h; exact .non
  | .bl _, _, h => by cases h; exact .bl _
  | .int _, _, h => by cases h; exact .int _
  | .str _, _, h => by cases h; exact .str _
  | .tup ds, _, h => by
    cases h with
    | tup h1 h2 =>
      refine .tup ?_ (RepL.lift hD h2)
      rcases h1 with (h1 | ⟨o', h1⟩) | h1
      · exact .inl (.inl (by rw [upd_ne (ne_of_none h1 hD)]; exact h1))
      · exact .inl (.inr ⟨o', by rw [upd_ne (ne_of_none h1 hD)]; exact h1⟩)
      · exact .inr h1
  | .lst ds, _, h => by
    cases h with
    | lst h1 h2 h4 h3 =>
      have ne := ne_of_none h1 hD
      refine .lst (by rw [upd_ne ne]; exact h1) h2 (fun z => ?_) (RepL.lift hD h3)
      rcases List.mem_cons.mp z with z | z
      · exact ne z
      · exact h4 z
  | .scr ns, _, h => by
    cases h with
    | scr h1 =>
      rcases h1 with ⟨o', h1⟩ | h1
      · exact .scr (.inl ⟨o', by rw [upd_ne (ne_of_none h1 hD)]; exact h1⟩)
      · exact .scr (.inr h1)
    | scrL h1 h2 h4 =>
      have ne := ne_of_none h1 hD
      refine .scrL (by rw [upd_ne ne]; exact h1) h2 (fun z => ?_)
      rcases List.mem_cons.mp z with z | z
      · exact ne z
      · exact h4 z
  | .cell i, _, h => by cases h with | cell h1 h2 => exact .cell h1 h2
  | .fn x, _, h => by
    cases h with
    | fn h1 => exact .fn h1
    | lam h1 h2 h3 => exact .lam h1 (by rw [upd_ne (ne_of_none h2 hD)]; exact h2) (by rw [upd_ne (ne_of_none h3 hD)]; exact h3)
  | .ty n, _, h => by cases h; exact .ty _
  | .dks ks, _, h => by cases h with | dks h1 h2 => exact .dks (by rw [upd_ne (ne_of_none h1 hD)]; exact h1) h2
  | .ex C, _, h => by
    cases h with
    | ex h0 h1 h2 h4 =>
      have ne := ne_of_none h1 hD
      refine .ex h0 (by rw [upd_ne ne]; exact h1) h2 (fun z => ?_)
      rcases List.mem_cons.mp z with z | z
      · exact ne z
      · exact h4 z
theorem RepL.lift {D : Addr} {o : HO} (hD : H D = none) : ∀ {ds : List MP.D} {vs : List V}, RepL c α s H vs ds → RepL (c.add D) α s (upd H D o) vs ds
  | [], _, h => by cases h; exact .nil
  | d :: ds, _, h => by
    cases h with
    | cons h1 h2 => exact .cons (Rep.lift hD h1) (RepL.lift hD h2)
end
mutual
theorem Rep.lower {D : Addr} : ∀ {d : MP.D} {v : V}, Rep (c.add D) α s H v d → Rep c α s H v d
  | .non, _, h => by cases h; exact .non
  | .bl _, _, h => by cases h; exact .bl _
  | .int _, _, h => by cases h; exact .int _
  | .str _, _, h => by cases h; exact .str _
  | .tup ds, _, h => by cases h with | tup h1 h2 => exact .tup h1 (RepL.lower h2)
  | .lst ds, _, h => by cases h with | lst h1 h2 h4 h3 => exact .lst h1 h2 (fun z => h4 (List.mem_cons_of_mem _ z)) (RepL.lower h3)
  | .scr ns, _, h => by
    cases h with
    | scr h1 => exact .scr h1
    | scrL h1 h2 h4 => exact .scrL h1 h2 fun z => h4 (List.mem_cons_of_mem _ z)
  | .cell i, _, h => by cases h with | cell h1 h2 => exact .cell h1 h2
  | .fn x, _, h => by
    cases h with
    | fn h1 => exact .fn h1
    | lam h1 h2 h3 => exact .lam h1 h2 h3
  | .ty n, _, h => by cases h; exact .ty _
  | .dks ks, _, h => by cases h with | dks h1 h2 => exact .dks h1 h2
  | .ex C, _, h => by cases h with | ex h0 h1 h2 h4 => exact .ex h0 h1 h2 fun z => h4 (List.mem_cons_of_mem _ z)
theorem RepL.lower {D : Addr} : ∀ {ds : List MP.D} {vs : List V}, RepL (c.add D) α s H vs ds → RepL c α s H vs ds
  | [], _, h => by cases h; exact .nil
  | d :: ds, _, h => by
    cases h with
    | cons h1 h2 => exact .cons (Rep.lower h1) (RepL.lower h2)
end
mutual
/-- the list that is being made grows: data stay -/
theorem Rep.grow {D : Addr} {o : HO} {ys : List V} (hm : D ∈ c.φ) (hD : H D = some (.lst ys)) : ∀ {d : MP.D} {v : V}, Rep c α s H v d → Rep c α s (upd H D o) v d
  | .non, _, h => by cases h; exact .non
  | .bl _, _, h => by cases h; exact .bl _
  | .int _, _, h => by cases h; exact .int _
  | .str _, _, h => by cases h; exact .str _
  | .tup ds, _, h => by
    cases h with
    | tup h1 h2 =>
      refine .tup ?_ (RepL.grow hm hD h2)
      rcases h1 with (h1 | ⟨o', h1⟩) | h1
      · exact .inl (.inl (by rw [upd_ne (ne_of h1 hD (by simp))]; exact h1))
      · exact .inl (.inr ⟨o', by rw [upd_ne (ne_of h1 hD (by simp))]; exact h1⟩)
      · exact .inr h1
  | .lst ds, _, h => by
    cases h with
    | lst h1 h2 h4 h3 => exact .lst (by rw [upd_ne fun z => h4 (by rw [z]; exact hm)]; exact h1) h2 h4 (RepL.grow hm hD h3)
  | .scr ns, _, h => by
    cases h with
    | scr h1 =>
      rcases h1 with ⟨o', h1⟩ | h1
      · exact .scr (.inl ⟨o', by rw [upd_ne (ne_of h1 hD (by simp))]; exact h1⟩)
      · exact .scr (.inr h1)
    | scrL h1 h2 h4 => exact .scrL (by rw [upd_ne fun z => h4 (by rw [z]; exact hm)]; exact h1) h2 h4
  | .cell i, _, h => by cases h with | cell h1 h2 => exact .cell h1 h2
  | .fn x, _, h => by
    cases h with
    | fn h1 => exact .fn h1
    | lam h1 h2 h3 => exact .lam h1 (by rw [upd_ne (ne_of h2 hD (by unfold LamO; simp))]; exact h2) (by rw [upd_ne (ne_of h3 hD (by unfold CodeO; simp))]; exact h3)
  | .ty n, _, h => by cases h; exact .ty _
  | .dks ks, _, h => by cases h with | dks h1 h2 => exact .dks (by rw [upd_ne (ne_of h1 hD (by simp))]; exact h1) h2
  | .ex C, _, h => by cases h with | ex h0 h1 h2 h4 => exact .ex h0 (by rw [upd_ne fun z => h4 (by rw [z]; exact hm)]; exact h1) h2 h4
theorem RepL.grow {D : Addr} {o : HO} {ys : List V} (hm : D ∈ c.φ) (hD : H D = some (.lst ys)) : ∀ {ds : List MP.D} {vs : List V}, RepL c α s H vs ds → RepL c α s (upd H D o) vs ds
  | [], _, h => by cases h; exact .nil
  | d :: ds, _, h => by
    cases h with
    | cons h1 h2 => exact .cons (Rep.grow hm hD h1) (RepL.grow hm hD h2)
end
theorem Rs.lift {D : Addr} {o : HO} (r : Rs c α s H) (hD : H D = none) : Rs (c.add D) α s (upd H D o) where
  inj := r.inj
  lt := r.lt
  cell := fun j y h => by
    have hne : α j ≠ D := fun z => by
      have mu := r.mut (i := j) (by rw [h]; simp)
      rw [z, hD] at mu; exact mu
    have q := r.cell j y h
    cases y with
    | lst ds => obtain ⟨vs, q, k⟩ := q; exact ⟨vs, by rw [upd_ne hne]; exact q, k.lift hD⟩
    | ins C fs => obtain ⟨Ca, dx, vfs, e, q, k⟩ := q; exact ⟨Ca, dx, vfs, e, by rw [upd_ne hne]; exact q, Paired.mapP k fun _ _ z => ⟨z.1, z.2.lift hD⟩⟩
    | dct kvs => obtain ⟨vs, q, k⟩ := q; exact ⟨vs, by rw [upd_ne hne]; exact q, Paired.mapP k fun _ _ z => ⟨z.1, z.2.lift hD⟩⟩
  fr := fun j h z => by
    rcases List.mem_cons.mp z with z | z
    · have mu := r.mut h
      rw [z, hD] at mu; exact mu
    · exact r.fr j h z
  tr := fun a h => by
    rcases List.mem_cons.mp h with z | z
    · subst z; rw [upd_same]; simp
    · exact (Le.alloc r hD).trk a (r.tr a z)
  tb := tabs_upd r.tb (.inl hD)
theorem Rs.lower {D : Addr} (r : Rs (c.add D) α s H) : Rs c α s H where
  inj := r.inj
  lt := r.lt
  cell := fun j y h => by
    have q := r.cell j y h
    cases y with
    | lst ds => obtain ⟨vs, q, k⟩ := q; exact ⟨vs, q, k.lower⟩
    | ins C fs => obtain ⟨Ca, dx, vfs, e, q, k⟩ := q; exact ⟨Ca, dx, vfs, e, q, Paired.mapP k fun _ _ z => ⟨z.1, z.2.lower⟩⟩
    | dct kvs => obtain ⟨vs, q, k⟩ := q; exact ⟨vs, q, Paired.mapP k fun _ _ z => ⟨z.1, z.2.lower⟩⟩
  fr := fun j h z => r.fr j h (List.mem_cons_of_mem _ z)
  tr := fun a h => r.tr a (List.mem_cons_of_mem _ h)
  tb := r.tb
theorem Rs.grow {D : Addr} {o : HO} {ys : List V} (r : Rs c α s H) (hm : D ∈ c.φ) (hD : H D = some (.lst ys)) : Rs c α s (upd H D o) where
  inj := r.inj
  lt := r.lt
  cell := fun j y h => by
    have hne : α j ≠ D := fun z => r.fr j (by rw [h]; simp) (by rw [z]; exact hm)
    have q := r.cell j y h
    cases y with
    | lst ds => obtain ⟨vs, q, k⟩ := q; exact ⟨vs, by rw [upd_ne hne]; exact q, k.grow hm hD⟩
    | ins C fs => obtain ⟨Ca, dx, vfs, e, q, k⟩ := q; exact ⟨Ca, dx, vfs, e, by rw [upd_ne hne]; exact q, Paired.mapP k fun _ _ z => ⟨z.1, z.2.grow hm hD⟩⟩
    | dct kvs => obtain ⟨vs, q, k⟩ := q; exact ⟨vs, by rw [upd_ne hne]; exact q, Paired.mapP k fun _ _ z => ⟨z.1, z.2.grow hm hD⟩⟩
  fr := r.fr
  tr := fun a h => by
    by_cases e : a = D
    · subst e; rw [upd_same]; simp
    · rw [upd_ne e]; exact r.tr a h
  tb := tabs_upd r.tb (.inr (by rw [hD]; exact True.intro))
theorem Le.fresh {D : Addr} {o : HO} (l : Le α s H α' s' H') (hD : H D = none) : Le α s H α' s' (upd H' D o) where
  nx := l.nx
  old := l.old
  new := l.new
  trk := fun b h => by
    by_cases e : b = D
    · subst e; rw [upd_same]; simp
    · rw [upd_ne e]; exact l.trk b h
  ext := fun b u h1 nt h2 => by rw [upd_ne (ne_of_none h1 hD)]; exact l.ext b u h1 nt h2

/-! ### slots -/
structure RepE (c : Cn) (α : Nat → Addr) (s : Sto) (H : Hp) (σ : L2.St) (δ : Env) : Prop where
  len : δ.length = σ.length
  get : ∀ (i : Nat) (d : D), δ[i]? = some (some d) → ∃ v, σ[i]? = some (some v) ∧ Rep c α s H v d
theorem RepE.mono {σ : L2.St} {δ : Env} (l : Le α s H α' s' H') (h : RepE c α s H σ δ) : RepE c α' s' H' σ δ :=
  ⟨h.len, fun i d e => let ⟨v, e1, r⟩ := h.get i d e; ⟨v, e1, r.mono l⟩⟩
theorem RepE.put {σ : L2.St} {δ : Env} {i : Nat} {v : V} {d : D} (h : RepE c α s H σ δ) (r : Rep c α s H v d) : RepE c α s H (σ.set i (some v)) (δ.set i (some d)) := by
  refine ⟨by simp [h.len], fun j d' e => ?_⟩
  by_cases hj : i = j
  · subst hj
    by_cases hl : i < δ.length
    · rw [List.getElem?_set_self hl] at e
      cases e
      exact ⟨v, List.getElem?_set_self (by rw [← h.len]; exact hl), r⟩
    · rw [List.getElem?_eq_none (by simpa using hl)] at e; cases e
  · rw [List.getElem?_set_ne hj] at e
    obtain ⟨w, e1, r1⟩ := h.get j d' e
    exact ⟨w, by rw [List.getElem?_set_ne hj]; exact e1, r1⟩
theorem RepE.drop1 {σ : L2.St} {δ : Env} {i : Nat} (h : RepE c α s H σ δ) : RepE c α s H (σ.set i none) (δ.set i none) := by
  refine ⟨by simp [h.len], fun j d' e => ?_⟩
  by_cases hj : i = j
  · subst hj
    by_cases hl : i < δ.length
    · rw [List.getElem?_set_self hl] at e; cases e
    · rw [List.getElem?_eq_none (by simpa using hl)] at e; cases e
  · rw [List.getElem?_set_ne hj] at e
    obtain ⟨w, e1, r1⟩ := h.get j d' e
    exact ⟨w, by rw [List.getElem?_set_ne hj]; exact e1, r1⟩

/-! ### sequences that are read -/
theorem Rep.seqL {v : V} {d : D} {ds : List D} (h : Rep c α s H v d) (r : Rs c α s H) (e : seqOf s d = some ds) : ∃ a vs, v = .ref a ∧ SqL c.K H a vs ∧ RepL c α s H vs ds := by
  cases h with
  | lst h1 h2 h4 h3 => simp [seqOf] at e; subst e; exact ⟨_, _, rfl, .of h1, h3⟩
  | scr h1 =>
    simp [seqOf] at e; subst e
    refine ⟨_, _, rfl, ?_, RepL.of_ints⟩
    rcases h1 with ⟨o, h1⟩ | h1
    · exact .inl (.inr ⟨o, h1⟩)
    · exact .inr h1
  | scrL h1 h2 h4 =>
    simp [seqOf] at e; subst e
    exact ⟨_, _, rfl, .of h1, RepL.of_ints⟩
  | @cell i v h1 h2 =>
    unfold seqOf at e
    cases q : s.m i with
    | none => simp [q] at e
    | some x =>
      cases x with
      | ins C fs => simp [q] at e
      | dct kvs => simp [q] at e
      | lst ys =>
        simp [q] at e; subst e
        obtain ⟨vs, h3, h4⟩ := r.cell i _ q
        exact ⟨α i, vs, h2 (by rw [q]; simp), .of h3, h4⟩
  | _ => simp [seqOf] at e
theorem Rep.seqV {v : V} {d : D} {ds : List D} (h : Rep c α s H v d) (r : Rs c α s H) (e : seqV s d = some ds) : ∃ a vs, v = .ref a ∧ (SqL c.K H a vs ∨ SqT c.K H a vs) ∧ RepL c α s H vs ds := by
  unfold MP.seqV at e
  split at e
  · cases e
    cases h with | tup h1 h2 => exact ⟨_, _, rfl, .inr h1, h2⟩
  · obtain ⟨a, vs, e1, e2, e3⟩ := h.seqL r e
    exact ⟨a, vs, e1, .inl e2, e3⟩
mutual
theorem Rep.dp : ∀ {d : D} {v : V} {p : PyData}, Rep c α s H v d → toP d = some p → Dp c.K H v p ∧ p.plain = true
  | .non, _, _, h, e => by cases h; simp [toP] at e; subst e; exact ⟨.non, rfl⟩
  | .bl _, _, _, h, e => by cases h; simp [toP] at e; subst e; exact ⟨.bl _, rfl⟩
  | .int _, _, _, h, e => by cases h; simp [toP] at e; subst e; exact ⟨.int _, rfl⟩
  | .str _, _, _, h, e => by cases h; simp [toP] at e; subst e; exact ⟨.str _, rfl⟩
  | .tup ds, _, _, h, e => by
    cases h with
    | tup h1 h2 =>
      simp only [toP, Option.map_eq_some_iff] at e
      obtain ⟨ps, e, rfl⟩ := e
      obtain ⟨q1, q2⟩ := RepL.dp h2 e
      exact ⟨.tup h1 q1, by simpa [PyData.plain] using q2⟩
  | .lst ds, _, _, h, e => by
    cases h with
    | lst h1 h0 h3 h2 =>
      simp only [toP, Option.map_eq_some_iff] at e
      obtain ⟨ps, e, rfl⟩ := e
      obtain ⟨q1, q2⟩ := RepL.dp h2 e
      exact ⟨.lst (.of h1) q1, by simpa [PyData.plain] using q2⟩
  | .scr ns, _, _, h, e => by
    have go : ∀ ns : List Int, DpAll c.K H (ns.map V.int) (ns.map PyData.int) ∧ PyData.plainAll (ns.map PyData.int) = true := by
      intro ns
      induction ns with
      | nil => exact ⟨.nil, rfl⟩
      | cons n r ih => exact ⟨.cons (.int _) ih.1, by simp [PyData.plainAll, PyData.plain, ih.2]⟩
    simp [toP] at e
    subst e
    cases h with
    | scr h1 =>
      refine ⟨.lst ?_ (go ns).1, by simpa [PyData.plain] using (go ns).2⟩
      rcases h1 with ⟨o, h1⟩ | h1
      · exact .inl (.inr ⟨o, h1⟩)
      · exact .inr h1
    | scrL h1 h2 h4 => exact ⟨.lst (.of h1) (go ns).1, by simpa [PyData.plain] using (go ns).2⟩
  | .cell _, _, _, _, e => by simp [toP] at e
  | .fn _, _, _, _, e => by simp [toP] at e
  | .ty _, _, _, _, e => by simp [toP] at e
  | .dks _, _, _, _, e => by simp [toP] at e
  | .ex _, _, _, _, e => by simp [toP] at e
theorem RepL.dp : ∀ {ds : List D} {vs : List V} {ps : List PyData}, RepL c α s H vs ds → toPs ds = some ps → DpAll c.K H vs ps ∧ PyData.plainAll ps = true
  | [], _, _, h, e => by cases h; simp [toPs] at e; subst e; exact ⟨.nil, rfl⟩
  | d :: ds, _, _, h, e => by
    cases h with
    | cons h1 h2 =>
      unfold toPs at e
      cases q1 : toP d with
      | none => simp [q1] at e
      | some p =>
        cases q2 : toPs ds with
        | none => simp [q1, q2] at e
        | some ps =>
          simp [q1, q2] at e
          subst e
          obtain ⟨a1, a2⟩ := Rep.dp h1 q1
          obtain ⟨b1, b2⟩ := RepL.dp h2 q2
          exact ⟨.cons a1 b1, by simp [PyData.plainAll, a2, b2]⟩
end
end
end MP
/-! MP2: what a text must be to mean an expression of MP0, the world's facts, runs of results. -/
namespace MP
open PySem PySem.Spec PyProof.Rows L2 LamX NdefX

/-! ### results -/
def ExOk (c : Cn) (α : Nat → Addr) (s : Sto) (H : Hp) (x : Exn) (C : Value) (d : Option Addr) : Prop :=
  (∃ a, c.exc x.cls = some a ∧ C = .ref a) ∧ match x.fs with
    | [] => d = none
    | fs => ∃ dx vfs, d = some dx ∧ H dx = some (.xd vfs) ∧ RepF c α s H vfs fs
section
variable (c : Cn) (α : Nat → Addr) (s : Sto) (H : Hp)
def Gd {β : Type} (P : (Nat → Addr) → Sto → Hp → β → Prop) (E : XK) (r : Res β) : Prop := match r with
  | .ok b s' => ∀ α' H', Le α s H α' s' H' → Rs c α' s' H' → P α' s' H' b
  | .exc x s' => ∀ α' H' C d, Le α s H α' s' H' → Rs c α' s' H' → ExOk c α' s' H' x C d → E C d H'
  | .bad => False
end
/-- of a value -/
def PV (c : Cn) (Q : VK) : (Nat → Addr) → Sto → Hp → D → Prop := fun α s H d => ∀ v, Rep c α s H v d → Q v H
def PL (c : Cn) (Q : List V → Hp → Prop) : (Nat → Addr) → Sto → Hp → List D → Prop := fun α s H d => ∀ v, RepL c α s H v d → Q v H
def PB (Q : Bool → Hp → Prop) : (Nat → Addr) → Sto → Hp → D → Prop := fun _ _ H d => ∃ b, d = .bl b ∧ Q b H
section
variable {c : Cn} {α α1 : Nat → Addr} {s s1 : Sto} {H H1 : Hp} {β γ : Type} {P P' : (Nat → Addr) → Sto → Hp → β → Prop} {E E' : XK} {r : Res β}
theorem Gd.step (l : Le α s H α1 s1 H1) (g : Gd c α s H P E r) : Gd c α1 s1 H1 P E r := by
  cases r with
  | ok b s' => exact fun α' H' l' rs => g α' H' (l.trans l') rs
  | exc x s' => exact fun α' H' C d l' rs e => g α' H' C d (l.trans l') rs e
  | bad => exact g
theorem Gd.imp (g : Gd c α s H P E r) (h : ∀ α' s' H' b, Le α s H α' s' H' → Rs c α' s' H' → P α' s' H' b → P' α' s' H' b) (he : ∀ C d H', E C d H' → E' C d H') : Gd c α s H P' E' r := by
  cases r with
  | ok b s' => exact fun α' H' l rs => h _ _ _ _ l rs (g α' H' l rs)
  | exc x s' => exact fun α' H' C d l rs e => he _ _ _ (g α' H' C d l rs e)
  | bad => exact g
theorem Gd.imp1 (g : Gd c α s H P E r) (h : ∀ α' s' H' b, Le α s H α' s' H' → Rs c α' s' H' → P α' s' H' b → P' α' s' H' b) : Gd c α s H P' E r := g.imp h fun _ _ _ h => h
theorem Gd.bind {P : (Nat → Addr) → Sto → Hp → γ → Prop} {k : β → Sto → Res γ} (g : Gd c α s H P E (r.bind k)) : Gd c α s H (fun α1 s1 H1 b => Le α s H α1 s1 H1 ∧ Gd c α1 s1 H1 P E (k b s1)) E r := by
  cases r with
  | ok b s' => exact fun α' H' l rs => ⟨l, Gd.step l g⟩
  | exc x s' => exact g
  | bad => exact g
theorem Gd.ok_here {b : β} (rs : Rs c α s H) (g : Gd c α s H P E (.ok b s)) : P α s H b := g α H rs.le rs
end

/-! ### readings -/
section
variable (c : Cn) (W : WX) (ev : Env → Sto → Res D)
def tE : TE := fun σ H Q => ∃ α s δ, Rs c α s H ∧ RepE c α s H σ δ ∧ Gd c α s H (PV c Q) (WE W σ) (ev δ s)
def tT : TT := fun σ H Q => ∃ α s δ, Rs c α s H ∧ RepE c α s H σ δ ∧ Gd c α s H (PB Q) (WE W σ) (ev δ s)
def tL (ev : Env → Sto → Res (List D)) : TA := fun σ H Q => ∃ α s δ, Rs c α s H ∧ RepE c α s H σ δ ∧ Gd c α s H (PL c Q) (WE W σ) (ev δ s)
end
theorem _root_.L2.PE.imp {X : Cx} {e : Expr} {t t' : TE} (h : PE X e t) (i : ∀ σ H Q, t' σ H Q → t σ H Q) : PE X e t' := ⟨fun pins s σ H Q I q => h.run pins s σ H Q I (i σ H Q q)⟩
theorem _root_.L2.PT.imp {X : Cx} {e : Expr} {t t' : TT} (h : PT X e t) (i : ∀ σ H Q, t' σ H Q → t σ H Q) : PT X e t' := ⟨fun pins s σ H Q I q => h.run pins s σ H Q I (i σ H Q q)⟩
theorem _root_.L2.PW.imp {X : Cx} {e : Expr} {t t' : TT} (h : PW X e t) (i : ∀ σ H Q, t' σ H Q → t σ H Q) : PW X e t' := ⟨fun wh pins s σ H Q I q => h.run wh pins s σ H Q I (i σ H Q q)⟩
theorem _root_.L2.PA.imp {X : Cx} {e : List Expr} {t t' : TA} (h : PA X e t) (i : ∀ σ H Q, t' σ H Q → t σ H Q) : PA X e t' := ⟨fun pos pins s σ H Q I q => h.run pos pins s σ H Q I (i σ H Q q)⟩

section
variable {c : Cn} {W : WX} {σ : L2.St} {H : Hp}
/-- the first of a row of values -/
theorem tE.first {eva : Env → Sto → Res D} {γ : Type} {k : D → Sto → Res γ} {P : (Nat → Addr) → Sto → Hp → γ → Prop} {R : VK} {α : Nat → Addr} {s : Sto} {δ : Env} (rs : Rs c α s H) (re : RepE c α s H σ δ)
    (g : Gd c α s H P (WE W σ) ((eva δ s).bind k))
    (h : ∀ α1 s1 H1 v x, Le α s H α1 s1 H1 → Rs c α1 s1 H1 → RepE c α1 s1 H1 σ δ → Rep c α1 s1 H1 v x → Gd c α1 s1 H1 P (WE W σ) (k x s1) → R v H1) : tE c W eva σ H R :=
  ⟨α, s, δ, rs, re, g.bind.imp1 fun α1 s1 H1 x l r1 q v rv => h α1 s1 H1 v x l r1 (re.mono l) rv q.2⟩
theorem tL.first {eva : Env → Sto → Res (List D)} {γ : Type} {k : List D → Sto → Res γ} {P : (Nat → Addr) → Sto → Hp → γ → Prop} {R : List V → Hp → Prop} {α : Nat → Addr} {s : Sto} {δ : Env} (rs : Rs c α s H) (re : RepE c α s H σ δ)
    (g : Gd c α s H P (WE W σ) ((eva δ s).bind k))
    (h : ∀ α1 s1 H1 v x, Le α s H α1 s1 H1 → Rs c α1 s1 H1 → RepE c α1 s1 H1 σ δ → RepL c α1 s1 H1 v x → Gd c α1 s1 H1 P (WE W σ) (k x s1) → R v H1) : tL c W eva σ H R :=
  ⟨α, s, δ, rs, re, g.bind.imp1 fun α1 s1 H1 x l r1 q v rv => h α1 s1 H1 v x l r1 (re.mono l) rv q.2⟩
theorem tT.first {eva : Env → Sto → Res D} {γ : Type} {k : D → Sto → Res γ} {P : (Nat → Addr) → Sto → Hp → γ → Prop} {R : Bool → Hp → Prop} {α : Nat → Addr} {s : Sto} {δ : Env} (rs : Rs c α s H) (re : RepE c α s H σ δ)
    (g : Gd c α s H P (WE W σ) ((eva δ s).bind k)) (hb : ∀ x s1 α1 H1, Gd c α1 s1 H1 P (WE W σ) (k x s1) → ∃ b, x = .bl b)
    (h : ∀ α1 s1 H1 b, Le α s H α1 s1 H1 → Rs c α1 s1 H1 → RepE c α1 s1 H1 σ δ → Gd c α1 s1 H1 P (WE W σ) (k (.bl b) s1) → R b H1) : tT c W eva σ H R :=
  ⟨α, s, δ, rs, re, g.bind.imp1 fun α1 s1 H1 x l r1 q => by
    obtain ⟨b, rfl⟩ := hb x s1 α1 H1 q.2
    exact ⟨b, rfl, h α1 s1 H1 b l r1 (re.mono l) q.2⟩⟩
end

/-! ### what is asked of values by an operation of the machine -/
def rW (X : Cx) (f : Value → Value → Sem Value) : R2 := fun x y H Q => ∀ (pins : List (Addr × Obj)) (s : Shared) (σ : L2.St) (v u : Value), Inv X pins σ H s → RelV x v → RelV y u → wpAny (model X.prog X.w) X.A (f v u) (EP X pins σ Q) X.xe s
theorem opR_rW {X : Cx} {f : Value → Value → Sem Value} : OpR X f (rW X f) := fun pins s σ H x y v u Q I rx ry q => q pins s σ v u I rx ry
theorem rW_of {X : Cx} {f : Value → Value → Sem Value} {r : R2} (o : OpR X f r) {x y : V} {H : Hp} {Q : VK} (h : r x y H Q) : rW X f x y H Q := fun pins s σ v u I rx ry => o pins s σ H x y v u Q I rx ry h
def rWU (X : Cx) (f : Value → Sem Value) : V → Hp → VK → Prop := fun x H Q => ∀ (pins : List (Addr × Obj)) (s : Shared) (σ : L2.St) (v : Value), Inv X pins σ H s → RelV x v → wpAny (model X.prog X.w) X.A (f v) (EP X pins σ Q) X.xe s
def rWC (X : Cx) (f : Value) : List V → Hp → VK → Prop := fun xs H Q => ∀ (pins : List (Addr × Obj)) (s : Shared) (σ : L2.St) (us : List Value), Inv X pins σ H s → Vals xs us → wpAny (model X.prog X.w) X.A (call f us) (EP X pins σ Q) X.xe s
theorem callR_rWC {X : Cx} {f : Value} : CallR X f (rWC X f) := fun pins s σ H xs us Q I r q => q pins s σ us I r
theorem rWC_of {X : Cx} {f : Value} {r : List V → Hp → VK → Prop} (o : CallR X f r) {xs : List V} {H : Hp} {Q : VK} (h : r xs H Q) : rWC X f xs H Q := fun pins s σ us I rx => o pins s σ H xs us Q I rx h

section
variable {X : Cx} {c : Cn} {α : Nat → Addr} {s : Sto} {H : Hp} {W : WX} {σ : L2.St} {Q : VK} {E : XK}
theorem Rep.non_iff {v : V} {d : D} (h : Rep c α s H v d) (hd : isCell d ≠ true) : decide (v = .non) = isNon d := by
  cases h with
  | cell _ _ => exact absurd rfl hd
  | _ => first | rfl | simp [isNon]
theorem Rep.live_non {v : V} {d : D} (h : Rep c α s H v d) (hd : liveC s d = true) : decide (v = .non) = false := by
  cases h with
  | cell h1 h2 =>
    rw [h2 (by intro z; simp [liveC, z] at hd)]; rfl
  | _ => simp [liveC] at hd
theorem Rep.intD {v : V} {i : Int} (h : Rep c α s H v (.int i)) : v = .int i := by cases h; rfl
theorem Rep.strD {v : V} {i : Str} (h : Rep c α s H v (.str i)) : v = .str i := by cases h; rfl
theorem Rep.blD {v : V} {i : Bool} (h : Rep c α s H v (.bl i)) : v = .bl i := by cases h; rfl
theorem Rep.nonD {v : V} (h : Rep c α s H v .non) : v = .non := by cases h; rfl
theorem Rep.tupD {v : V} {xs : List D} (h : Rep c α s H v (.tup xs)) : ∃ a vs, v = .ref a ∧ SqT c.K H a vs ∧ RepL c α s H vs xs := by
  cases h with | tup h1 h2 => exact ⟨_, _, rfl, h1, h2⟩
theorem Rep.lstD {v : V} {xs : List D} (h : Rep c α s H v (.lst xs)) : ∃ a vs, v = .ref a ∧ H a = some (.lst vs) ∧ RepL c α s H vs xs := by
  cases h with | lst h1 h2 h4 h3 => exact ⟨_, _, rfl, h1, h3⟩
/-- a new tuple, a new list -/
theorem Rep.dctR {v : V} {x : D} {kvs : List (Key × D)} (h : Rep c α s H v x) (rs : Rs c α s H) (e : dctOf s x = some kvs) : ∃ a vf, v = .ref a ∧ H a = some (.dK vf) ∧ RepK c α s H vf kvs := by
  unfold dctOf at e
  split at e
  · rename_i i
    split at e
    · rename_i kvs' q
      cases e
      obtain ⟨vf, e1, rl⟩ := rs.cell i _ q
      cases h with
      | cell h1 h2 => exact ⟨_, vf, h2 (by rw [q]; simp), e1, rl⟩
    · cases e
  · cases e
theorem Rep.lstR {v : V} {x : D} {xs : List D} (h : Rep c α s H v x) (rs : Rs c α s H) (e : lstOf s x = some xs) : ∃ a vs, v = .ref a ∧ H a = some (.lst vs) ∧ RepL c α s H vs xs := by
  cases x with
  | lst ys => cases e; exact h.lstD
  | cell i =>
    cases q : s.m i with
    | none => simp only [lstOf, q] at e; cases e
    | some y =>
      cases y with
      | ins C fs => simp only [lstOf, q] at e; cases e
      | dct kvs => simp only [lstOf, q] at e; cases e
      | lst ys =>
        simp only [lstOf, q, Option.some.injEq] at e
        subst e
        obtain ⟨vs, e1, rl⟩ := rs.cell i _ q
        cases h with
        | cell h1 h2 => exact ⟨_, vs, h2 (by rw [q]; simp), e1, rl⟩
  | _ => cases e
theorem Gd.tupNew {vs : List V} {ds : List D} (rs : Rs c α s H) (r : RepL c α s H vs ds) (g : Gd c α s H (PV c Q) E (.ok (.tup ds) s)) : ∀ p, H p = none → Q (.ref p) (upd H p (.tup vs)) := fun p hp =>
  have l : Le α s H α s (upd H p (.tup vs)) := Le.alloc rs hp
  g α _ l (rs.alloc hp) (.ref p) (.tup (.of upd_same) (r.mono l))
theorem Gd.lstNew {vs : List V} {ds : List D} (rs : Rs c α s H) (r : RepL c α s H vs ds) (g : Gd c α s H (PV c Q) E (.ok (.lst ds) s)) : ∀ p, H p = none → Q (.ref p) (upd H p (.lst vs)) := fun p hp =>
  have l : Le α s H α s (upd H p (.lst vs)) := Le.alloc rs hp
  g α _ l (rs.alloc hp) (.ref p) (.lst upd_same (fun i hi e => by
    have mu := rs.mut hi
    rw [e, hp] at mu; exact mu) (fun z => rs.tr p z hp) (r.mono l))
theorem Gd.cellNew {vs : List V} {ds : List D} (rs : Rs c α s H) (r : RepL c α s H vs ds) (g : Gd c α s H (PV c Q) E (.ok (.cell s.nx) (s.new (.lst ds)))) : ∀ p, H p = none → Q (.ref p) (upd H p (.lst vs)) := fun p hp =>
  have l : Le α s H (αn α s p) (s.new (.lst ds)) (upd H p (.lst vs)) := Le.newc rs hp
  g _ _ l (rs.newc hp ⟨vs, upd_same, r.mono l⟩) (.ref p) (.cell (Nat.lt_succ_self _) fun _ => by rw [αn_new])
theorem Gd.here {d : D} {v : V} (rs : Rs c α s H) (g : Gd c α s H (PV c Q) E (.ok d s)) (r : Rep c α s H v d) : Q v H := g α H rs.le rs v r
theorem Gd.okO {o : Option D} (g : Gd c α s H (PV c Q) E (okO o s)) : ∃ d, o = some d ∧ Gd c α s H (PV c Q) E (.ok d s) := by
  cases o with
  | none => exact g.elim
  | some d => exact ⟨d, rfl, g⟩
theorem Gd.iteN {β : Type} {P : (Nat → Addr) → Sto → Hp → β → Prop} {p : Prop} [Decidable p] {r : Res β} (g : Gd c α s H P E (if p then .bad else r)) : ¬ p ∧ Gd c α s H P E r := by
  by_cases h : p
  · rw [if_pos h] at g; exact g.elim
  · rw [if_neg h] at g; exact ⟨h, g⟩
theorem Gd.ite {β : Type} {P : (Nat → Addr) → Sto → Hp → β → Prop} {p : Prop} [Decidable p] {r : Res β} (g : Gd c α s H P E (if p then r else .bad)) : p ∧ Gd c α s H P E r := by
  by_cases h : p
  · rw [if_pos h] at g; exact ⟨h, g⟩
  · rw [if_neg h] at g; exact g.elim
end

/-! ### operators are sound -/
section
variable {X : Cx} {c : Cn} {α : Nat → Addr} {s : Sto} {H : Hp} {Q : VK} {E : XK} {v u : V} {x y : D}
def opB : Bop → Operator
  | .add => .Add | .addC => .Add | .sub => .Sub | .mul => .Mult | .mulC => .Mult | .fdiv => .FloorDiv | .mod => .Mod | .pow => .Pow
theorem bin_ok (hK : c.K = X.K) {op : Bop} (rs : Rs c α s H) (rv : Rep c α s H v x) (ru : Rep c α s H u y) (g : Gd c α s H (PV c Q) E (binD op x y s)) : rW X (binaryOp (opB op)) v u H Q := by
  cases op with
  | add =>
    dsimp only [binD] at g
    split at g
    · rw [rv.intD, ru.intD]
      exact rW_of op_add ⟨_, _, rfl, rfl, g.here rs (.int _)⟩
    · obtain ⟨h, g⟩ := g.ite
      rw [rv.strD, ru.strD]
      exact rW_of op_add_str ⟨_, _, rfl, rfl, h, g.here rs (.str _)⟩
    · obtain ⟨h2, g⟩ := g.ite
      obtain ⟨a, vs, rfl, ha, ra⟩ := rv.tupD
      obtain ⟨b, ws, rfl, hb, rb⟩ := ru.tupD
      rw [hK] at ha hb
      refine rW_of op_catA ⟨a, b, vs, ws, rfl, rfl, ha, hb, by rw [ra.length, rb.length]; exact h2, fun e => ?_, fun _ e => ?_, fun _ _ => g.tupNew rs (ra.app rb)⟩
      · subst e; cases ra
        rw [List.nil_append] at g
        exact g.here rs ru
      · subst e; cases rb
        rw [List.append_nil] at g
        exact g.here rs rv
    · split at g
      · rename_i xs ys e1 e2
        obtain ⟨h, g⟩ := g.ite
        obtain ⟨a, vs, rfl, ha, ra⟩ := rv.lstR rs e1
        obtain ⟨b, ws, rfl, hb, rb⟩ := ru.lstR rs e2
        exact rW_of op_cat ⟨a, b, vs, ws, rfl, rfl, ha, hb, by rw [ra.length, rb.length]; exact h, g.lstNew rs (ra.app rb)⟩
      · exact g.elim
  | addC =>
    dsimp only [binD] at g
    split at g
    · rename_i xs ys e1 e2
      obtain ⟨h, g⟩ := g.ite
      obtain ⟨a, vs, rfl, ha, ra⟩ := rv.lstR rs e1
      obtain ⟨b, ws, rfl, hb, rb⟩ := ru.lstR rs e2
      exact rW_of op_cat ⟨a, b, vs, ws, rfl, rfl, ha, hb, by rw [ra.length, rb.length]; exact h, g.cellNew rs (ra.app rb)⟩
    · exact g.elim
  | sub =>
    dsimp only [binD] at g
    split at g
    · rw [rv.intD, ru.intD]
      exact rW_of op_sub ⟨_, _, rfl, rfl, g.here rs (.int _)⟩
    · exact g.elim
  | mul =>
    dsimp only [binD] at g
    split at g
    · obtain ⟨h, g⟩ := g.ite
      rw [rv.intD, ru.intD]
      rcases h with h | h | h
      · exact rW_of op_mulW ⟨_, _, rfl, rfl, h, g.here rs (.int _)⟩
      · exact rW_of op_mul ⟨_, _, rfl, rfl, .inl (by omega), g.here rs (.int _)⟩
      · exact rW_of op_mul ⟨_, _, rfl, rfl, .inr (by omega), g.here rs (.int _)⟩
    · obtain ⟨h, g⟩ := g.ite
      rw [rv.strD, ru.intD]
      exact rW_of op_times ⟨_, _, rfl, rfl, h.1, h.2.1, h.2.2.1, h.2.2.2, g.here rs (.str _)⟩
    · split at g
      · rename_i xs e1
        obtain ⟨h, g⟩ := g.ite
        obtain ⟨a, vs, rfl, ha, ra⟩ := rv.lstR rs e1
        rw [ru.intD]
        exact rW_of op_rep ⟨a, _, vs, rfl, rfl, ha, by omega, by omega, by rw [ra.length]; exact h.2.2, g.lstNew rs (ra.rep _)⟩
      · exact g.elim
    · exact g.elim
  | mulC =>
    dsimp only [binD] at g
    split at g
    · split at g
      · rename_i xs e1
        obtain ⟨h, g⟩ := g.ite
        obtain ⟨a, vs, rfl, ha, ra⟩ := rv.lstR rs e1
        rw [ru.intD]
        exact rW_of op_rep ⟨a, _, vs, rfl, rfl, ha, by omega, by omega, by rw [ra.length]; exact h.2.2, g.cellNew rs (ra.rep _)⟩
      · exact g.elim
    · exact g.elim
  | fdiv =>
    dsimp only [binD] at g
    split at g
    · obtain ⟨h, g⟩ := g.ite
      rw [rv.intD, ru.intD]
      exact rW_of op_fdivW ⟨_, _, rfl, rfl, h, g.here rs (.int _)⟩
    · exact g.elim
  | mod =>
    dsimp only [binD] at g
    split at g
    · obtain ⟨h, g⟩ := g.ite
      rw [rv.intD, ru.intD]
      exact rW_of op_mod ⟨_, _, rfl, rfl, h, g.here rs (.int _)⟩
    · exact g.elim
  | pow =>
    dsimp only [binD] at g
    split at g
    · obtain ⟨h, g⟩ := g.ite
      rw [rv.intD, ru.intD]
      exact rW_of op_pow ⟨_, _, rfl, rfl, h, g.here rs (.int _)⟩
    · exact g.elim

/-- what is compared -/
def pyOf (s : Sto) (x : D) : Option PyData := match x with
  | .cell i => (match s.m i with | some (.lst xs) => toP (.lst xs) | _ => none)
  | d => toP d
theorem eqD_eq : eqD s x y = (match pyOf s x, pyOf s y with
  | some a, some b => if min a.depth b.depth ≤ 100 then some (PyData.eqv a b) else none
  | _, _ => none) := rfl
theorem pyOf_dp (rs : Rs c α s H) (rv : Rep c α s H v x) {p : PyData} (h : pyOf s x = some p) : Dp c.K H v p ∧ p.plain = true := by
  unfold pyOf at h
  split at h
  · rename_i i
    split at h
    · rename_i xs q
      cases rv with
      | cell h1 h2 =>
        obtain ⟨vs, e, r⟩ := rs.cell i _ q
        rw [h2 (by rw [q]; simp)]
        simp only [toP, Option.map_eq_some_iff] at h
        obtain ⟨ps, e2, rfl⟩ := h
        obtain ⟨q1, q2⟩ := r.dp e2
        exact ⟨.lst (.of e) q1, by simpa [PyData.plain] using q2⟩
    · cases h
  · exact rv.dp h
def copB : Cop → CmpOp
  | .eq => .Eq | .ne => .NotEq | .lt => .Lt | .le => .LtE | .gt => .Gt | .ge => .GtE | .is => .Is | .isn => .IsNot | .inn => .In | .nin => .NotIn
theorem op_eqP (hu : X.A.units + 100 < cLine) : OpR X (compareOp .Eq) (fun x y H Q => ∃ d e, Dp X.K H x d ∧ Dp X.K H y e ∧ d.plain = true ∧ e.plain = true ∧ min d.depth e.depth ≤ 100 ∧ Q (.bl (PyData.eqv d e)) H) := by
  intro pins s σ H x y v u Q I rx ry h
  obtain ⟨d, e, hd, he, sd, se, hl, q⟩ := h
  obtain ⟨as, r1⟩ := Dp.reads I d x v hd rx
  obtain ⟨bs, r2⟩ := Dp.reads I e y u he ry
  exact SeqAt.eq_plain r1 r2 sd se (by omega) ⟨.bl _, H, I, rfl, q⟩
theorem op_neP (hu : X.A.units + 100 < cLine) : OpR X (compareOp .NotEq) (fun x y H Q => ∃ d e, Dp X.K H x d ∧ Dp X.K H y e ∧ d.plain = true ∧ e.plain = true ∧ min d.depth e.depth ≤ 100 ∧ Q (.bl (!PyData.eqv d e)) H) := by
  intro pins s σ H x y v u Q I rx ry h
  obtain ⟨d, e, hd, he, sd, se, hl, q⟩ := h
  obtain ⟨as, r1⟩ := Dp.reads I d x v hd rx
  obtain ⟨bs, r2⟩ := Dp.reads I e y u he ry
  exact SeqAt.ne_plain r1 r2 sd se (by omega) ⟨.bl _, H, I, rfl, q⟩
theorem op_inP (hu : X.A.units + 101 < cLine) : OpR X (compareOp .In) (fun x y H Q => ∃ a vs ps d, y = .ref a ∧ (SqL X.K H a vs ∨ SqT X.K H a vs) ∧ DpAll X.K H vs ps ∧ Dp X.K H x d ∧ PyData.plainAll ps = true ∧ d.plain = true ∧ min (PyData.depthAll ps) d.depth ≤ 100 ∧ Q (.bl (ps.any fun q => PyData.eqv q d)) H) := by
  intro pins s σ H x y v u Q I rx ry h
  obtain ⟨a, vs, ps, d, rfl, hs, hd, he, sd, se, hl, q⟩ := h
  obtain ⟨as, r1⟩ := Dp.reads I d x v he rx
  rcases hs with hs | hs
  · obtain ⟨bs, r2⟩ := Dp.reads I (.list ps) (.ref a) u (.lst hs hd) ry
    exact SeqAt.in_list_data r2 r1 sd se (by omega) ⟨.bl _, H, I, rfl, q⟩
  · obtain ⟨bs, r2⟩ := Dp.reads I (.tuple ps) (.ref a) u (.tup hs hd) ry
    exact SeqAt.in_tuple_data r2 r1 sd se (by omega) ⟨.bl _, H, I, rfl, q⟩
theorem op_ninP (hu : X.A.units + 101 < cLine) : OpR X (compareOp .NotIn) (fun x y H Q => ∃ a vs ps d, y = .ref a ∧ (SqL X.K H a vs ∨ SqT X.K H a vs) ∧ DpAll X.K H vs ps ∧ Dp X.K H x d ∧ PyData.plainAll ps = true ∧ d.plain = true ∧ min (PyData.depthAll ps) d.depth ≤ 100 ∧ Q (.bl (!ps.any fun q => PyData.eqv q d)) H) := by
  intro pins s σ H x y v u Q I rx ry h
  obtain ⟨a, vs, ps, d, rfl, hs, hd, he, sd, se, hl, q⟩ := h
  obtain ⟨as, r1⟩ := Dp.reads I d x v he rx
  rcases hs with hs | hs
  · obtain ⟨bs, r2⟩ := Dp.reads I (.list ps) (.ref a) u (.lst hs hd) ry
    exact SeqAt.notIn_list_data r2 r1 sd se (by omega) ⟨.bl _, H, I, rfl, q⟩
  · obtain ⟨bs, r2⟩ := Dp.reads I (.tuple ps) (.ref a) u (.tup hs hd) ry
    exact SeqAt.notIn_tuple_data r2 r1 sd se (by omega) ⟨.bl _, H, I, rfl, q⟩
/-- a dict and its key -/
theorem Rep.keyD {v : V} {d : D} {k : Key} (h : Rep c α s H v d) (e : keyD d = some k) : v = kV k := by
  cases h with
  | int i => cases e; rfl
  | str i => cases e; rfl
  | _ => cases e
theorem dks_get (hK : c.K = X.K) (rs : Rs c α s H) (ru : Rep c α s H u y) {ks : List Key} (e : dksOf s y = some ks) (k : Key) : ∃ a o, u = .ref a ∧ DGet H a (kV k) o ∧ o.isSome = memK k ks := by
  have q : ∀ kvs : List (Key × V), (valV kvs k).isSome = memK k (kvs.map (·.1)) := fun kvs => by
    rw [← valV_any]
    unfold memK
    rw [List.any_map]
    rfl
  unfold dksOf at e
  split at e
  · rename_i ks'
    cases e
    cases ru with
    | dks h1 h2 =>
      refine ⟨_, _, rfl, .inl ⟨_, k, .inr ⟨_, h1⟩, rfl, rfl⟩, ?_⟩
      rw [q, h2]
  · rw [Option.map_eq_some_iff] at e
    obtain ⟨kvs, e, rfl⟩ := e
    cases ru with
    | @cell i _ h1 h2 =>
      unfold dctOf at e
      dsimp only at e
      split at e
      · rename_i kvs' q'
        cases e
        obtain ⟨vs, e1, rl⟩ := rs.cell i _ q'
        refine ⟨_, _, h2 (by rw [q']; simp), .k e1, ?_⟩
        rw [q, rl.keys]
      · cases e
    | _ => cases e
theorem cmp_ok (hK : c.K = X.K) (hu : X.A.units + 101 < cLine) {op : Cop} (rs : Rs c α s H) (rv : Rep c α s H v x) (ru : Rep c α s H u y) (g : Gd c α s H (PV c Q) E (cmpD op x y s)) : rW X (compareOp (copB op)) v u H Q := by
  have eqs : ∀ b, eqD s x y = some b → ∃ d e, Dp X.K H v d ∧ Dp X.K H u e ∧ d.plain = true ∧ e.plain = true ∧ min d.depth e.depth ≤ 100 ∧ b = PyData.eqv d e := fun b h => by
    rw [eqD_eq] at h
    split at h
    · rename_i p q hp hq
      split at h
      · obtain ⟨d1, d2⟩ := pyOf_dp rs rv hp
        obtain ⟨e1, e2⟩ := pyOf_dp rs ru hq
        cases h
        rw [hK] at d1 e1
        exact ⟨p, q, d1, e1, d2, e2, by assumption, rfl⟩
      · cases h
    · cases h
  cases op with
  | eq =>
    obtain ⟨d, e, g⟩ := Gd.okO g
    rw [Option.map_eq_some_iff] at e
    obtain ⟨b, e, rfl⟩ := e
    obtain ⟨p, q, h1, h2, h3, h4, h5, rfl⟩ := eqs b e
    exact rW_of (op_eqP (by omega)) ⟨p, q, h1, h2, h3, h4, h5, g.here rs (.bl _)⟩
  | ne =>
    obtain ⟨d, e, g⟩ := Gd.okO g
    rw [Option.map_eq_some_iff] at e
    obtain ⟨b, e, rfl⟩ := e
    obtain ⟨p, q, h1, h2, h3, h4, h5, rfl⟩ := eqs b e
    exact rW_of (op_neP (by omega)) ⟨p, q, h1, h2, h3, h4, h5, g.here rs (.bl _)⟩
  | lt =>
    dsimp only [cmpD] at g
    split at g
    · rw [rv.intD, ru.intD]; exact rW_of op_lt ⟨_, _, rfl, rfl, g.here rs (.bl _)⟩
    · rw [rv.strD, ru.strD]; exact rW_of op_lt_str ⟨_, _, rfl, rfl, g.here rs (.bl _)⟩
    · exact g.elim
  | le =>
    dsimp only [cmpD] at g
    split at g
    · rw [rv.intD, ru.intD]; exact rW_of op_le ⟨_, _, rfl, rfl, g.here rs (.bl _)⟩
    · exact g.elim
  | gt =>
    dsimp only [cmpD] at g
    split at g
    · rw [rv.intD, ru.intD]; exact rW_of op_gt ⟨_, _, rfl, rfl, g.here rs (.bl _)⟩
    · exact g.elim
  | ge =>
    dsimp only [cmpD] at g
    split at g
    · rw [rv.intD, ru.intD]; exact rW_of op_ge ⟨_, _, rfl, rfl, g.here rs (.bl _)⟩
    · exact g.elim
  | is =>
    dsimp only [cmpD] at g
    split at g
    · rw [ru.nonD]
      split at g
      · split at g
        · rename_i hl
          exact rW_of op_isN ⟨rfl, by rw [rv.live_non hl]; exact g.here rs (.bl _)⟩
        · exact g.elim
      · rename_i h
        exact rW_of op_isN ⟨rfl, by rw [rv.non_iff h]; exact g.here rs (.bl _)⟩
    · split at g
      · rw [rv.blD, ru.blD]; exact rW_of op_isBl ⟨_, _, rfl, rfl, g.here rs (.bl _)⟩
      · exact g.elim
    · exact g.elim
  | isn =>
    dsimp only [cmpD] at g
    split at g
    · rw [ru.nonD]
      split at g
      · split at g
        · rename_i hl
          exact rW_of op_notN ⟨rfl, by rw [rv.live_non hl]; exact g.here rs (.bl _)⟩
        · exact g.elim
      · rename_i h
        exact rW_of op_notN ⟨rfl, by rw [rv.non_iff h]; exact g.here rs (.bl _)⟩
    · split at g
      · rw [rv.blD, ru.blD]; exact rW_of op_notBl ⟨_, _, rfl, rfl, g.here rs (.bl _)⟩
      · exact g.elim
    · exact g.elim
  | inn =>
    dsimp only [cmpD] at g
    split at g
    · rename_i ks hks
      split at g
      · rename_i kk hkk
        obtain ⟨a, o, rfl, dg, ho⟩ := dks_get hK rs ru hks kk
        rw [rv.keyD hkk]
        intro pins s' σ v' u' I rx ry
        obtain rfl : u' = Value.ref a := ry
        have qq := g.here rs (.bl _)
        rw [← ho] at qq
        exact d_in (by omega) I dg rx fun s2 I2 => ⟨.bl _, H, I2, rfl, qq⟩
      · exact g.elim
    · split at g
      · rename_i ys p hy hp
        split at g
        · rename_i qs hq
          obtain ⟨h, g⟩ := g.ite
          obtain ⟨d1, d2⟩ := rv.dp hp
          obtain ⟨a, vs, rfl, hs, rl⟩ := ru.seqV rs hy
          obtain ⟨e1, e2⟩ := rl.dp hq
          rw [hK] at d1 e1 hs
          exact rW_of (op_inP hu) ⟨a, vs, qs, p, rfl, hs, e1, d1, e2, d2, h, g.here rs (.bl _)⟩
        · exact g.elim
      · exact g.elim
  | nin =>
    dsimp only [cmpD] at g
    split at g
    · rename_i ks hks
      split at g
      · rename_i kk hkk
        obtain ⟨a, o, rfl, dg, ho⟩ := dks_get hK rs ru hks kk
        rw [rv.keyD hkk]
        intro pins s' σ v' u' I rx ry
        obtain rfl : u' = Value.ref a := ry
        have qq := g.here rs (.bl _)
        rw [← ho] at qq
        exact d_notIn (by omega) I dg rx fun s2 I2 => ⟨.bl _, H, I2, rfl, qq⟩
      · exact g.elim
    · split at g
      · rename_i ys p hy hp
        split at g
        · rename_i qs hq
          obtain ⟨h, g⟩ := g.ite
          obtain ⟨d1, d2⟩ := rv.dp hp
          obtain ⟨a, vs, rfl, hs, rl⟩ := ru.seqV rs hy
          obtain ⟨e1, e2⟩ := rl.dp hq
          rw [hK] at d1 e1 hs
          exact rW_of (op_ninP hu) ⟨a, vs, qs, p, rfl, hs, e1, d1, e2, d2, h, g.here rs (.bl _)⟩
        · exact g.elim
      · exact g.elim
end
end MP
/-! MP3: the world's facts, which text means which expression, calls. -/
namespace MP
open PySem PySem.Spec PyProof.Rows L2 LamX NdefX

/-! ### more operations by values -/
section
variable {X : Cx} {c : Cn} {α : Nat → Addr} {s : Sto} {H : Hp} {Q : VK} {E : XK} {v u : V} {x y : D}
def rIxW (X : Cx) : R2 := fun x y H Q => ∀ (value slice : Expr) (pins : List (Addr × Obj)) (s : Shared) (σ : L2.St) (v u : Value), Inv X pins σ H s → RelV x v → RelV y u →
    subscripted slice false v u = operate [v, u] (getItem v u) → wpAny (model X.prog X.w) X.A (subscriptTail value slice v u) (EP X pins σ Q) X.xe s
theorem ixR_W : IxR X (rIxW X) := fun value slice pins s σ H x y v u Q I rx ry q hs => q value slice pins s σ v u I rx ry hs
theorem rIxW_of {r : R2} (o : IxR X r) {x y : V} {H : Hp} {Q : VK} (h : r x y H Q) : rIxW X x y H Q := fun value slice pins s σ v u I rx ry hs => o value slice pins s σ H x y v u Q I rx ry h hs
theorem ix_ok (hK : c.K = X.K) (hu : X.A.units + 1 < cLine) (rs : Rs c α s H) (rv : Rep c α s H v x) (ru : Rep c α s H u y) (g : Gd c α s H (PV c Q) E (ixD x y s)) : rIxW X v u H Q := by
  unfold ixD at g
  split at g
  · rw [ru.intD]
    split at g
    · obtain ⟨d, e, g⟩ := Gd.okO g
      obtain ⟨a, vs, rfl, hs, rl⟩ := rv.tupD
      obtain ⟨w, e1, e2⟩ := rl.atI e
      rw [hK] at hs
      exact rIxW_of ix_tup ⟨a, vs, _, w, rfl, rfl, hs, e1, g.here rs e2⟩
    · obtain ⟨h, g⟩ := g.ite
      obtain ⟨d, e, g⟩ := Gd.okO g
      rw [Option.map_eq_some_iff] at e
      obtain ⟨k, e, rfl⟩ := e
      rw [rv.strD]
      exact rIxW_of ix_str ⟨_, _, k, rfl, rfl, h, e, g.here rs (.str _)⟩
    · split at g
      · rename_i xs hx
        obtain ⟨d, e, g⟩ := Gd.okO g
        obtain ⟨a, vs, rfl, hs, rl⟩ := rv.seqL rs hx
        obtain ⟨w, e1, e2⟩ := rl.atI e
        rw [hK] at hs
        exact rIxW_of ix_list ⟨a, vs, _, w, rfl, rfl, hs, e1, g.here rs e2⟩
      · split at g
        · rename_i kvs hd
          obtain ⟨d, e, g⟩ := Gd.okO g
          obtain ⟨a, vf, rfl, hs, rl⟩ := rv.dctR rs hd
          obtain ⟨z, e1, e2⟩ := rl.val.2 _ e
          exact rIxW_of (ix_dget hu) ⟨a, z, rfl, .inl ⟨vf, .inl _, .inl hs, rfl, e1.symm⟩, g.here rs e2⟩
        · exact g.elim
  · rename_i zk
    split at g
    · rename_i kvs hd
      obtain ⟨d, e, g⟩ := Gd.okO g
      obtain ⟨a, vf, rfl, hs, rl⟩ := rv.dctR rs hd
      obtain ⟨z, e1, e2⟩ := rl.val.2 _ e
      rw [ru.strD]
      exact rIxW_of (ix_dget hu) ⟨a, z, rfl, .inl ⟨vf, .inr zk, .inl hs, rfl, e1.symm⟩, g.here rs e2⟩
    · exact g.elim
  · exact g.elim
def rSlW (X : Cx) : V → Option Int → Option Int → Hp → VK → Prop := fun x lo hi H Q => ∀ (pins : List (Addr × Obj)) (s : Shared) (σ : L2.St) (v vl vu : Value) (sl : Addr), Inv X pins σ H s → RelV x v → s.heap.IsSliceOf sl vl vu .none → IsPart vl lo → IsPart vu hi →
    ∃ T id, typeLookup (.type T) "__getitem__" = pure (some (.builtin id)) ∧ s.TypeIs v T ∧ wpAny (model X.prog X.w) X.A (getItem v (.ref sl)) (EP X pins σ Q) X.xe s
theorem slR_W : SlR X (rSlW X) := fun pins s σ H x v vl vu lo hi sl Q I rx hs pl pu q => q pins s σ v vl vu sl I rx hs pl pu
theorem rSlW_of {r : V → Option Int → Option Int → Hp → VK → Prop} (o : SlR X r) {x : V} {lo hi : Option Int} {H : Hp} {Q : VK} (h : r x lo hi H Q) : rSlW X x lo hi H Q := fun pins s σ v vl vu sl I rx hs pl pu => o pins s σ H x v vl vu lo hi sl Q I rx hs pl pu h
theorem RepL.cut {vs : List V} {ds : List D} (h : RepL c α s H vs ds) (lo hi : Option Int) : RepL c α s H (cutV vs lo hi) (cutD ds lo hi) := by
  unfold cutV cutD
  rw [h.length]
  exact (h.drop _).take _
theorem sl_ok (hK : c.K = X.K) (rs : Rs c α s H) (rv : Rep c α s H v x) {lo hi : Option Int} (g : Gd c α s H (PV c Q) E (slD x lo hi s)) : rSlW X v lo hi H Q := by
  unfold slD at g
  split at g
  · rename_i xs
    obtain ⟨a, vs, rfl, hs, rl⟩ := rv.tupD
    rw [hK] at hs
    refine rSlW_of sl_tupA ⟨a, vs, rfl, hs, fun z => ?_, fun _ => g.tupNew rs (rl.cut lo hi)⟩
    have e : cutD xs lo hi = xs := by
      unfold cutD
      rw [← rl.length, z.1, z.2, List.drop_zero, Nat.sub_zero, rl.length, List.take_length]
    rw [e] at g
    exact g.here rs rv
  · obtain ⟨h1, g⟩ := g.ite
    rw [rv.strD]
    exact rSlW_of sl_str ⟨_, rfl, h1, g.here rs (.str _)⟩
  · split at g
    · rename_i xs hx
      obtain ⟨a, vs, rfl, hs, rl⟩ := rv.seqL rs hx
      rw [hK] at hs
      exact rSlW_of sl_list ⟨a, vs, rfl, hs, g.lstNew rs (rl.cut lo hi)⟩
    · exact g.elim
theorem strsD_vals : ∀ {ds : List D} {xs : List Str} {vs : List V}, strsD ds = some xs → RepL c α s H vs ds → vs = xs.map V.str
  | [], xs, vs, h, r => by cases r; simp [strsD] at h; subst h; rfl
  | d :: ds, xs, vs, h, r => by
    cases r with
    | cons r1 r2 =>
      cases d <;> simp [strsD] at h
      obtain ⟨ys, h, rfl⟩ := h
      rw [r1.strD, strsD_vals h r2]
      rfl

/-! ### built-in functions and classes -/
def bidF : Bid → Str × Value
  | .len => ("len", .builtin "len") | .abs => ("abs", .builtin "abs") | .max => ("max", .builtin "max") | .min => ("min", .builtin "min")
  | .list => ("list", .type "list") | .listC => ("list", .type "list") | .tuple => ("tuple", .type "tuple") | .isin _ => ("isinstance", .builtin "isinstance")
  | .int => ("int", .type "int") | .sum => ("sum", .builtin "sum") | .str => ("str", .type "str")
theorem isin_ok (rs : Rs c α s H) (rv : Rep c α s H v x) {T : String} {b : Bool} (h : isinD T x s = some b) : ∃ t, TyX c.K H v t ∧ PySem.W.kitOne c.K t (.type T) = some b := by
  unfold isinD at h
  dsimp only at h
  cases rv with
  | non => exact ⟨_, .base .non, kit_ty h⟩
  | bl _ => exact ⟨_, .base (.bl _), kit_ty h⟩
  | int _ => exact ⟨_, .base (.int _), kit_ty h⟩
  | str _ => exact ⟨_, .base (.str _), kit_ty h⟩
  | tup h1 h2 =>
    refine ⟨.type "tuple", ?_, kit_ty h⟩
    rcases h1 with (h1 | ⟨o, h1⟩) | ⟨o, its, n, h1, h3, _⟩
    · exact .base (.tup h1)
    · exact .fTuple h1
    · exact .kTuple h1 h3
  | lst h1 h2 h4 h3 => exact ⟨.type "list", .base (.lst h1), kit_ty h⟩
  | scr h1 =>
    refine ⟨.type "list", ?_, kit_ty h⟩
    rcases h1 with ⟨o, h1⟩ | ⟨o, its, n, h1, h3, _⟩
    · exact .base (.frz h1)
    · exact .kList h1 h3
  | scrL h1 _ _ => exact ⟨.type "list", .base (.lst h1), kit_ty h⟩
  | @cell i _ h1 h2 =>
    dsimp only at h
    cases q : s.m i with
    | none => rw [q] at h; cases h
    | some y =>
      cases y with
      | ins C fs => rw [q] at h; cases h
      | dct kvs => rw [q] at h; cases h
      | lst ys =>
        rw [q] at h
        obtain ⟨vs, e, _⟩ := rs.cell i _ q
        rw [h2 (by rw [q]; simp)]
        exact ⟨.type "list", .base (.lst e), kit_ty h⟩
  | fn _ => cases h
  | lam _ _ _ => cases h
  | ty _ => cases h
  | dks _ _ => cases h
  | ex _ _ _ _ => cases h
theorem RepL.one {vs : List V} {d : D} (h : RepL c α s H vs [d]) : ∃ v, vs = [v] ∧ Rep c α s H v d := by
  cases h with | cons h1 h2 => cases h2; exact ⟨_, rfl, h1⟩
theorem RepL.two {vs : List V} {d e : D} (h : RepL c α s H vs [d, e]) : ∃ v w, vs = [v, w] ∧ Rep c α s H v d ∧ Rep c α s H w e := by
  cases h with | cons h1 h2 => obtain ⟨w, rfl, h3⟩ := h2.one; exact ⟨_, _, rfl, h1, h3⟩
theorem intsD_vals : ∀ {ds : List D} {ns : List Int} {vs : List V}, intsD ds = some ns → RepL c α s H vs ds → vs = ns.map V.int
  | [], _, _, e, .nil => by simp [intsD] at e; subst e; rfl
  | .int i :: ds, _, _, e, .cons h t => by
    simp only [intsD, Option.map_eq_some_iff] at e
    obtain ⟨ms, e, rfl⟩ := e
    rw [h.intD, intsD_vals e t]; rfl
  | .non :: _, _, _, e, _ => by simp [intsD] at e
  | .bl _ :: _, _, _, e, _ => by simp [intsD] at e
  | .str _ :: _, _, _, e, _ => by simp [intsD] at e
  | .tup _ :: _, _, _, e, _ => by simp [intsD] at e
  | .lst _ :: _, _, _, e, _ => by simp [intsD] at e
  | .scr _ :: _, _, _, e, _ => by simp [intsD] at e
  | .cell _ :: _, _, _, e, _ => by simp [intsD] at e
  | .fn _ :: _, _, _, e, _ => by simp [intsD] at e
  | .ty _ :: _, _, _, e, _ => by simp [intsD] at e
  | .dks _ :: _, _, _, e, _ => by simp [intsD] at e
  | .ex _ :: _, _, _, e, _ => by simp [intsD] at e
theorem blsD_vals : ∀ {ds : List D} {ns : List Bool} {vs : List V}, blsD ds = some ns → RepL c α s H vs ds → vs = ns.map V.bl
  | [], _, _, e, .nil => by simp [blsD] at e; subst e; rfl
  | .bl i :: ds, _, _, e, .cons h t => by
    simp only [blsD, Option.map_eq_some_iff] at e
    obtain ⟨ms, e, rfl⟩ := e
    rw [h.blD, blsD_vals e t]; rfl
  | .non :: _, _, _, e, _ => by simp [blsD] at e
  | .int _ :: _, _, _, e, _ => by simp [blsD] at e
  | .str _ :: _, _, _, e, _ => by simp [blsD] at e
  | .tup _ :: _, _, _, e, _ => by simp [blsD] at e
  | .lst _ :: _, _, _, e, _ => by simp [blsD] at e
  | .scr _ :: _, _, _, e, _ => by simp [blsD] at e
  | .cell _ :: _, _, _, e, _ => by simp [blsD] at e
  | .fn _ :: _, _, _, e, _ => by simp [blsD] at e
  | .ty _ :: _, _, _, e, _ => by simp [blsD] at e
  | .dks _ :: _, _, _, e, _ => by simp [blsD] at e
  | .ex _ :: _, _, _, e, _ => by simp [blsD] at e
theorem foldl_max : ∀ (is : List Int) (i : Int), (is.foldl max i ∈ i :: is) ∧ ∀ a ∈ i :: is, a ≤ is.foldl max i
  | [], i => ⟨List.mem_cons_self, fun a h => by rw [List.mem_singleton.mp h]; exact Int.le_refl _⟩
  | j :: is, i => by
    obtain ⟨h1, h2⟩ := foldl_max is (max i j)
    rw [List.foldl_cons]
    refine ⟨?_, fun a ha => ?_⟩
    · rcases List.mem_cons.mp h1 with h | h
      · rw [h]
        by_cases q : i ≤ j
        · rw [Int.max_eq_right q]; exact List.mem_cons_of_mem _ List.mem_cons_self
        · rw [Int.max_eq_left (by omega)]; exact List.mem_cons_self
      · exact List.mem_cons_of_mem _ (List.mem_cons_of_mem _ h)
    · rcases List.mem_cons.mp ha with h | h
      · have := h2 (max i j) List.mem_cons_self; omega
      · rcases List.mem_cons.mp h with h | h
        · have := h2 (max i j) List.mem_cons_self; omega
        · exact h2 a (List.mem_cons_of_mem _ h)
theorem call_maxI {X : Cx} (hc : X.calm = true) : CallR X (.builtin "max") (fun xs H Q => ∃ p i is, xs = [.ref p] ∧ SqL X.K H p ((i :: is).map V.int) ∧ Q (.int (is.foldl max i)) H) := by
  intro pins s σ H vs us Q I r h
  obtain ⟨p, i, is, rfl, hs, q⟩ := h
  obtain ⟨its, rv, hl, _⟩ := I.list hs
  rw [Vals.ref1 r]
  have ia : IntsAre its (i :: is) := intsAre_of rv
  obtain ⟨xs, e⟩ := ia.allInts.items
  have hns : i :: is = xs.toList.map (·.1) := by
    rw [← ia.numsOf, ← nums_intItems, ← e]
  have hsz : 0 < xs.size := by
    have h3 : 0 < (i :: is).length := by simp
    rw [hns, List.length_map, Array.length_toList] at h3; exact h3
  have hl' := hl.isList
  rw [e] at hl'
  refine max_intList (I.ok.hd hc) hl' hsz fun v h' tk hv hk => ?_
  obtain ⟨t, rfl⟩ := intItems_at hv
  obtain ⟨h1, h2⟩ := argBest_gt (numAt xs) (xs.size - 1)
  obtain ⟨m1, m2⟩ := foldl_max is i
  have key : numAt xs (argBest (fun i j => decide (numAt xs i > numAt xs j)) (xs.size - 1)) = is.foldl max i := by
    apply Int.le_antisymm
    · refine m2 _ ?_
      rw [hns, numAt_eq]
      exact getD_mem (by rw [List.length_map, Array.length_toList]; omega)
    · have m1' := m1
      rw [hns] at m1'
      obtain ⟨j, hj, e2⟩ := mem_getD m1'
      rw [List.length_map, Array.length_toList] at hj
      rw [← e2, ← numAt_eq]
      exact h2 j (by omega)
  rw [key]
  exact ⟨.int _, H, I.kept hk, ⟨_, rfl⟩, q⟩
/-- all but isinstance -/
theorem blt_ok (hK : c.K = X.K) (hc : X.calm = true) {b : Bid} (hb : ∀ T, b ≠ .isin T) {vs : List V} {ds : List D} (rs : Rs c α s H) (rv : RepL c α s H vs ds) (g : Gd c α s H (PV c Q) E (bltD b ds s)) : rWC X (bidF b).2 vs H Q := by
  unfold bltD at g
  split at g
  · obtain ⟨v, rfl, r⟩ := rv.one
    obtain ⟨a, ws, rfl, hs, rl⟩ := r.tupD
    rw [hK] at hs
    exact rWC_of call_len_seq ⟨a, ws, rfl, .inr hs, by rw [rl.length]; exact g.here rs (.int _)⟩
  · obtain ⟨h, g⟩ := g.ite
    obtain ⟨v, rfl, r⟩ := rv.one
    rw [r.strD]
    exact rWC_of call_len_str ⟨_, rfl, h, g.here rs (.int _)⟩
  · split at g
    · rename_i ys hy
      obtain ⟨v, rfl, r⟩ := rv.one
      obtain ⟨a, ws, rfl, hs, rl⟩ := r.seqL rs hy
      rw [hK] at hs
      exact rWC_of call_len_seq ⟨a, ws, rfl, .inl hs, by rw [rl.length]; exact g.here rs (.int _)⟩
    · exact g.elim
  · obtain ⟨v, rfl, r⟩ := rv.one
    rw [r.intD]
    exact rWC_of call_abs ⟨_, rfl, g.here rs (.int _)⟩
  · obtain ⟨v, w, rfl, r, r'⟩ := rv.two
    rw [r.intD, r'.intD]
    exact rWC_of (call_max2 hc) ⟨_, _, rfl, g.here rs (.int _)⟩
  · obtain ⟨v, w, rfl, r, r'⟩ := rv.two
    rw [r.intD, r'.intD]
    exact rWC_of (call_min2 hc) ⟨_, _, rfl, g.here rs (.int _)⟩
  · split at g
    · rename_i ys i is hy
      obtain ⟨v, rfl, r⟩ := rv.one
      obtain ⟨a, ws, rfl, hs, rl⟩ := r.lstD
      have e := intsD_vals hy rl
      exact rWC_of (call_maxI hc) ⟨a, i, is, rfl, .of (by rw [← e]; exact hs), g.here rs (.int _)⟩
    · exact g.elim
  · obtain ⟨v, rfl, r⟩ := rv.one
    obtain ⟨a, ws, rfl, hs, rl⟩ := r.tupD
    rw [hK] at hs
    exact rWC_of call_list_of ⟨a, ws, rfl, .inr hs, g.lstNew rs rl⟩
  · split at g
    · rename_i ys hy
      obtain ⟨v, rfl, r⟩ := rv.one
      obtain ⟨a, ws, rfl, hs, rl⟩ := r.seqL rs hy
      rw [hK] at hs
      exact rWC_of call_list_of ⟨a, ws, rfl, .inl hs, g.lstNew rs rl⟩
    · exact g.elim
  · obtain ⟨v, rfl, r⟩ := rv.one
    obtain ⟨a, ws, rfl, hs, rl⟩ := r.tupD
    rw [hK] at hs
    exact rWC_of call_list_of ⟨a, ws, rfl, .inr hs, g.cellNew rs rl⟩
  · split at g
    · rename_i ys hy
      obtain ⟨v, rfl, r⟩ := rv.one
      obtain ⟨a, ws, rfl, hs, rl⟩ := r.seqL rs hy
      rw [hK] at hs
      exact rWC_of call_list_of ⟨a, ws, rfl, .inl hs, g.cellNew rs rl⟩
    · exact g.elim
  · obtain ⟨v, rfl, r⟩ := rv.one
    obtain ⟨a, ws, rfl, hs, rl⟩ := r.tupD
    rw [hK] at hs
    exact rWC_of call_tuple_of ⟨a, ws, rfl, .inr ⟨hs, g.here rs r⟩⟩
  · split at g
    · rename_i ys hy
      obtain ⟨v, rfl, r⟩ := rv.one
      obtain ⟨a, ws, rfl, hs, rl⟩ := r.seqL rs hy
      rw [hK] at hs
      exact rWC_of call_tuple_of ⟨a, ws, rfl, .inl ⟨hs, g.tupNew rs rl⟩⟩
    · exact g.elim
  · exact absurd rfl (hb _)
  · obtain ⟨v, rfl, r⟩ := rv.one
    rw [r.intD]
    exact rWC_of call_int1 (.inl ⟨_, rfl, g.here rs (.int _)⟩)
  · obtain ⟨v, rfl, r⟩ := rv.one
    rw [r.blD]
    exact rWC_of call_int1 (.inr ⟨_, rfl, g.here rs (.int _)⟩)
  · obtain ⟨h, g⟩ := g.ite
    obtain ⟨v, rfl, r⟩ := rv.one
    rw [r.intD]
    exact rWC_of call_str_int ⟨_, rfl, h, g.here rs (.str _)⟩
  · obtain ⟨v, rfl, r⟩ := rv.one
    rw [r.strD]
    exact rWC_of SkE.call_str_str ⟨_, rfl, g.here rs (.str _)⟩
  · split at g
    · rename_i ys bs hy
      obtain ⟨v, rfl, r⟩ := rv.one
      obtain ⟨a, ws, rfl, hs, rl⟩ := r.lstD
      have e := blsD_vals hy rl
      exact rWC_of (call_sumB hc) ⟨a, bs, rfl, .of (by rw [← e]; exact hs), g.here rs (.int _)⟩
    · exact g.elim
  · exact g.elim
end

/-! ### the world -/
structure Gs where
  fns : List Str
  cls : List Str
  cons : List (Str × Int)
  blt : List Str
  exs : List Str
  flds : List Str
  isx : List (Str × List (Str × Bool)) := []
  tryx : List (Str × List (Str × Bool)) := []
  ist : List (List Str × List (Str × Bool)) := []
  /-- whether lambdas may be made here, which ones -/
  lm : Bool := false
  okl : Str → Arguments → Expr → Scope → Bool := fun _ _ _ _ => false
/-- within a lambda -/
def Gs.inl (G : Gs) : Gs := { G with lm := false, okl := fun _ _ _ _ => false }
/-- a def's promise -/
def spM (c : Cn) (F : Fn) (x : FK) (n : Nat) : Sp := fun vs H Q E =>
  vs.length = n ∧ ∃ φ α s ds, Rs { c with φ := φ } α s H ∧ RepL { c with φ := φ } α s H vs ds ∧ Gd { c with φ := φ } α s H (PV { c with φ := φ } Q) E (F x ds s)
/-- a lambda's promise -/
def LOk (P : Program) (w : World) (K : PySem.W.Frag) (mg : Str → Option Value) (base : Heap) (c : Cn) (F : Fn) (k : Nat) (x : Str) (L : NF) (b : Expr) : Prop :=
  ∀ (A : Around) (outer : List PySem.Env) (s : Shared) (H : Hp) (us : List Value) (vs : List V) (a : Addr) (Q : VK) (E : XK), Room k A → Env0 P w K mg base A outer s H → H a = some (LamO a L b) → H L.c = some (CodeO L.c L.qual) → Vals vs us →
    (∃ φ α s ds, Rs { c with φ := φ } α s H ∧ RepL { c with φ := φ } α s H vs ds ∧ Gd { c with φ := φ } α s H (PV { c with φ := φ } Q) E (F (.f x) ds s)) → codeAny (model P w) A (.call (.ref a) ⟨us, []⟩) (CR (L2.CX P w) outer P w H s Q E) s
structure FOk (X : Cx) (c : Cn) (F : Fn) (k : Nat) (x : FK) (a : Addr) : Prop where
  ex : ∃ fd ps nd, FnOk X.prog X.w X.K X.mg X.base (L2.CX X.prog X.w) k a fd ps (spM c F x ps.length) ∧
    (∀ m, m ≤ nd → Binds X.K fd ps (List.replicate m Value.none)) ∧
    ∀ xs s, F x xs s ≠ .bad → ∃ m, m ≤ nd ∧ xs.length + m = ps.length ∧ F x xs s = F x (xs ++ List.replicate m .non) s
  kp : PySem.W.keepIn X.K (.ref a) = true
structure Wd (X : Cx) (c : Cn) (F : Fn) (G : Gs) (k : Nat) : Prop where
  eK : c.K = X.K
  calm : X.calm = true
  room : Room (k + 1) X.A
  run : ∀ x a, c.fn x = some a → FOk X c F k x a
  live : ∀ C m xs s, F (.m C m) xs s ≠ .bad → ∃ a, c.fn (.m C m) = some a
  lrun : ∀ x L b, c.lam x L b → LOk X.prog X.w X.K X.mg X.base c F k x L b
  lmk : G.lm = true → ∃ co P, X.env.code = .ref co ∧ TabB X.base X.mg co P ∧ (P, X.env.qual ++ "<lambda>") ∈ c.tbs ∧ ∀ p ∈ c.tbs, p.1 = P → p.2 = X.env.qual ++ "<lambda>"
  lok : ∀ x ps b sc, G.okl x ps b sc = true → (∀ q cc, c.lam x ⟨"<lambda>", q, ps, [], sc, [], cc⟩ b) ∧ ps.defaults = [] ∧ ps.kw_defaults = [] ∧ ∀ y ∈ sc.names, y.2 ≠ .free
  fns : ∀ x ∈ G.fns, ∃ a, c.fn (.f x) = some a ∧ X.mg x = some (.ref a)
  cls : ∀ C ∈ G.cls, ∃ a f, c.cls C = some a ∧ X.mg C = some (.ref a) ∧ c.fn (.m C "__init__") = some f ∧ Mk X.K a f
  inst : ∀ C a, c.cls C = some a → Cls X.K a ∧ (∀ f ∈ G.flds, NoAttr X.K a f) ∧ ∀ m f, c.fn (.m C m) = some f → Meth X.K a m f
  cons : ∀ p ∈ G.cons, ∃ t, X.mg p.1 = some (.int p.2 t)
  blt : ∀ x ∈ G.blt, X.mg x = none
  exs : ∀ C ∈ G.exs, ∃ a, c.exc C = some a ∧ X.mg C = some (.ref a) ∧ PySem.W.excIn X.K a [.type "ValueError", .type "Exception", .type "BaseException", .type "object"] "ValueError.__new__" = true ∧
    PySem.W.keepIn X.K (.ref a) = true ∧ PySem.W.subIn X.K (.ref a) (.type "BaseException") = some true ∧ PySem.W.typeIn X.K (.ref a) = some (.type "type")
  isx : ∀ p ∈ G.isx, (if p.1 = "ValueError" then X.mg p.1 = none ∧ ∀ q ∈ p.2, ∃ Ca, c.exc q.1 = some Ca ∧ L2.ExcC X.K Ca ∧ PySem.W.kitOne X.K (.ref Ca) (.type "ValueError") = some q.2
    else ∃ Ta, X.mg p.1 = some (.ref Ta) ∧ ∀ q ∈ p.2, ∃ Ca, c.exc q.1 = some Ca ∧ L2.ExcC X.K Ca ∧ PySem.W.kitOne X.K (.ref Ca) (.ref Ta) = some q.2)
  tryx : ∀ p ∈ G.tryx, ∃ Ta, X.mg p.1 = some (.ref Ta) ∧ ∀ q ∈ p.2, ∃ Ca, c.exc q.1 = some Ca ∧ PySem.W.exmOne X.K (.ref Ca) (.ref Ta) = some q.2
  ist : ∀ p ∈ G.ist, ∃ Ts : List Addr, Paired (fun T a => X.mg T = some (.ref a)) p.1 Ts ∧ ∀ q ∈ p.2, ∃ Ca, c.exc q.1 = some Ca ∧ L2.ExcC X.K Ca ∧ PySem.W.kitAny X.K (.ref Ca) (Ts.map Value.ref) = some q.2
theorem Wd.add {X : Cx} {c : Cn} {F : Fn} {G : Gs} {k : Nat} (w : Wd X c F G k) (D : Addr) : Wd X (c.add D) F G k :=
  ⟨w.eK, w.calm, w.room, fun x a h => ⟨(w.run x a h).ex, (w.run x a h).kp⟩, w.live, w.lrun, w.lmk, w.lok, w.fns, w.cls, w.inst, w.cons, w.blt, w.exs, w.isx, w.tryx, w.ist⟩
/-- another context of the same run -/
theorem Wd.of {X X' : Cx} {c : Cn} {F : Fn} {G : Gs} {k : Nat} (w : Wd X c F G k) (h1 : X'.prog = X.prog) (h2 : X'.w = X.w) (h3 : X'.K = X.K) (h4 : X'.mg = X.mg) (h5 : X'.base = X.base) (h6 : X'.A = X.A) (h7 : X'.calm = X.calm) (h8 : X'.env.code = X.env.code) (h9 : X'.env.qual = X.env.qual) : Wd X' c F G k := by
  obtain ⟨P, w', K, mg, base, A, N, s0, H0, env, outer, stack, ex, fn, calm, pn, xe⟩ := X
  obtain ⟨P', w'', K', mg', base', A', N', s0', H0', env', outer', stack', ex', fn', calm', pn', xe'⟩ := X'
  dsimp only at h1 h2 h3 h4 h5 h6 h7 h8 h9
  subst h1 h2 h3 h4 h5 h6 h7
  exact ⟨w.eK, w.calm, w.room, fun x a h => ⟨(w.run x a h).ex, (w.run x a h).kp⟩, w.live, w.lrun, fun z => by
    dsimp only
    rw [h8, h9]
    exact w.lmk z, w.lok, w.fns, w.cls, w.inst, w.cons, w.blt, w.exs, w.isx, w.tryx, w.ist⟩

/-! ### calls -/
section
variable {X : Cx} {c : Cn} {F : Fn} {G : Gs} {k : Nat} {W : WX} {α : Nat → Addr} {s : Sto} {H : Hp} {Q : VK} {σ : L2.St} {pins : List (Addr × Obj)} {s0 : Shared}
theorem Gd.nb {β : Type} {P : (Nat → Addr) → Sto → Hp → β → Prop} {E : XK} {r : Res β} (g : Gd c α s H P E r) : r ≠ .bad := fun e => by subst e; exact g
theorem RepL.nons : ∀ m : Nat, RepL c α s H (List.replicate m V.non) (List.replicate m D.non)
  | 0 => .nil
  | m + 1 => .cons .non (RepL.nons m)
theorem vals_nons : ∀ m : Nat, Vals (List.replicate m V.non) (List.replicate m Value.none)
  | 0 => .nil
  | m + 1 => .cons rfl (vals_nons m)
theorem call_run (wd : Wd X c F G k) (tk : Takes X W) {x : FK} {a : Addr} (hx : c.fn x = some a) {vs : List V} {us : List Value} {xs : List D} (I : Inv X pins σ H s0) (r : Vals vs us) (rs : Rs c α s H) (rl : RepL c α s H vs xs)
    (g : Gd c α s H (PV c Q) (WE W σ) (F x xs s)) : wpAny (model X.prog X.w) X.A (call (.ref a) us) (EP X pins σ Q) X.xe s0 := by
  obtain ⟨⟨fd, ps, nd, hF, hB, hf⟩, kp⟩ := wd.run x a hx
  obtain ⟨m, hm, hl, e⟩ := hf xs s g.nb
  rw [e] at g
  refine run_fnSD (E := WE W) hF (wd.room.mono (Nat.le_succ _)) (hB m hm) (vals_nons m) (passAt tk σ) I r ⟨?_, c.φ, α, s, _, rs, rl.app (RepL.nons m), g⟩
  rw [List.length_append, List.length_replicate, rl.length, hl]
/-- a lambda is called -/
theorem call_lam (wd : Wd X c F G k) (tk : Takes X W) {x : Str} {L : NF} {b : Expr} {a : Addr} (hx : c.lam x L b) (ha : H a = some (LamO a L b)) (hc : H L.c = some (CodeO L.c L.qual)) {vs : List V} {us : List Value} {xs : List D} (I : Inv X pins σ H s0) (r : Vals vs us) (rs : Rs c α s H) (rl : RepL c α s H vs xs)
    (g : Gd c α s H (PV c Q) (WE W σ) (F (.f x) xs s)) : wpAny (model X.prog X.w) X.A (call (.ref a) us) (EP X pins σ Q) X.xe s0 := by
  refine wpAny_call (codeAny_mono (wd.lrun x L b hx X.A X.stack s0 H us vs a Q (WE W σ) (wd.room.mono (Nat.le_succ _)) I.env0 ha hc r ⟨c.φ, α, s, xs, rs, rl, g⟩) fun r s' hq' => ?_)
  cases r with
  | error e => exact passAt tk σ pins _ _ e s' I hq'
  | ok fl =>
    cases fl with
    | ret u => exact I.after hq'
    | next => exact False.elim hq'
    | brk => exact False.elim hq'
    | cont => exact False.elim hq'
theorem lam_at {L : NF} {b : Expr} {a : Addr} (I : Inv X pins σ H s0) (ha : H a = some (LamO a L b)) : PySem.W.FnAt a s0.heap := by
  obtain ⟨dx, ss, m, t, z⟩ := lamO_at I.hok ha
  exact ⟨_, dx, _, ss, z⟩
theorem make_run (wd : Wd X c F G k) (tk : Takes X W) {C : Str} {a : Addr} (hC : c.cls C = some a) {f : Addr} (hf : c.fn (.m C "__init__") = some f) (M : Mk X.K a f) {vs : List V} {us : List Value} {xs : List D} (I : Inv X pins σ H s0) (r : Vals vs us) (rs : Rs c α s H) (rl : RepL c α s H vs xs)
    (g : Gd c α s H (PV c Q) (WE W σ) ((F (.m C "__init__") (.cell s.nx :: xs) (s.new (.ins C []))).bind fun r s2 => match r with
    | .non => .ok (.cell s.nx) s2
    | _ => .bad)) : wpAny (model X.prog X.w) X.A (call (.ref a) us) (EP X pins σ Q) X.xe s0 := by
  obtain ⟨⟨fd, ps, nd, hF, hB, hfi⟩, kp⟩ := wd.run _ f hf
  have g := g.bind
  obtain ⟨m, hm, hl, e⟩ := hfi _ _ g.nb
  rw [e] at g
  have hx : s0.heap.objs.size + 1 ≠ s0.heap.objs.size := Nat.succ_ne_self _
  have h1 : H s0.heap.objs.size = none := I.hok.fresh (Nat.le_refl _)
  have h2 : H (s0.heap.objs.size + 1) = none := I.hok.fresh (Nat.le_succ _)
  have I2 := Inv.made (C := a) I
  have l1 : Le α s H α s (upd H s0.heap.objs.size (.own (s0.heap.objs.size + 1))) := Le.alloc rs h1
  have rs1 : Rs c α s (upd H s0.heap.objs.size (.own (s0.heap.objs.size + 1))) := rs.alloc h1
  have h3 : upd H s0.heap.objs.size (.own (s0.heap.objs.size + 1)) (s0.heap.objs.size + 1) = none := by rw [upd_ne hx]; exact h2
  have l2 : Le α s _ (αn α s (s0.heap.objs.size + 1)) (s.new (.ins C [])) (upd (upd H s0.heap.objs.size (.own (s0.heap.objs.size + 1))) (s0.heap.objs.size + 1) (.ins a s0.heap.objs.size [])) := Le.newc rs1 h3
  have rs2 : Rs c (αn α s (s0.heap.objs.size + 1)) (s.new (.ins C [])) (upd (upd H s0.heap.objs.size (.own (s0.heap.objs.size + 1))) (s0.heap.objs.size + 1) (.ins a s0.heap.objs.size [])) := rs1.newc h3 ⟨a, _, _, hC, upd_same, .nil⟩
  have l := l1.trans l2
  have r0 : Rep c (αn α s (s0.heap.objs.size + 1)) (s.new (.ins C [])) (upd (upd H s0.heap.objs.size (.own (s0.heap.objs.size + 1))) (s0.heap.objs.size + 1) (.ins a s0.heap.objs.size [])) (.ref (s0.heap.objs.size + 1)) (.cell s.nx) := .cell (Nat.lt_succ_self _) fun _ => by rw [αn_new]
  have r2 : Vals (V.ref (s0.heap.objs.size + 1) :: (vs ++ List.replicate m V.non)) (Value.ref (s0.heap.objs.size + 1) :: (us ++ List.replicate m Value.none)) := .cons rfl (r.append (vals_nons m))
  have hlen : (V.ref (s0.heap.objs.size + 1) :: (vs ++ List.replicate m V.non)).length = ps.length := by
    rw [List.length_cons, List.length_append, List.length_replicate, rl.length, ← hl, List.length_cons]; omega
  have hl2 : (Value.ref (s0.heap.objs.size + 1) :: us ++ List.replicate m Value.none).length = ps.length := by
    rw [← hlen]; exact r2.length.symm
  have rl' : RepL c (αn α s (s0.heap.objs.size + 1)) (s.new (.ins C [])) (upd (upd H s0.heap.objs.size (.own (s0.heap.objs.size + 1))) (s0.heap.objs.size + 1) (.ins a s0.heap.objs.size [])) (V.ref (s0.heap.objs.size + 1) :: (vs ++ List.replicate m V.non)) (D.cell s.nx :: xs ++ List.replicate m D.non) :=
    .cons r0 ((rl.mono l).app (RepL.nons m))
  refine wpAny_call (make_map (f := f) I.kIn M.makes M.init (beq_iff_eq.mp M.fn) (codeAny_mono (hF.run _ X.stack _ _ ⟨Value.ref (s0.heap.objs.size + 1) :: us, []⟩ (Value.ref (s0.heap.objs.size + 1) :: (us ++ List.replicate m Value.none)) _ (fun v H2 => v = .non ∧ Q (.ref (s0.heap.objs.size + 1)) H2) (WE W σ) (wd.room.make a us [])
    (I2.env0.make a us []) (hB m hm _ (Value.ref (s0.heap.objs.size + 1) :: us) I2.kIn hl2) r2 ⟨hlen, c.φ, _, _, _, rs2, rl', ?_⟩) fun r s' hq' => ?_))
  · refine (Gd.step l g).imp1 fun α' s' H' d l' rs' q v rv => ?_
    obtain ⟨l3, q⟩ := q
    cases d with
    | non =>
      refine ⟨rv.nonD, ?_⟩
      exact (q : Gd c α' s' H' (PV c Q) (WE W σ) (.ok (.cell s.nx) s')).here rs' (r0.mono l')
    | _ => exact (q : False).elim
  · cases r with
    | error e => exact passAt tk σ pins _ _ e s' I2 hq'
    | ok fl =>
      cases fl with
      | ret u =>
        obtain ⟨v, H', I3, rv, ev, q3⟩ := I2.after hq'
        subst ev
        exact ⟨rv, ⟨V.ref (s0.heap.objs.size + 1), H', I3, rfl, q3⟩⟩
      | next => exact False.elim hq'
      | brk => exact False.elim hq'
      | cont => exact False.elim hq'
end

/-! ### arguments that are handed in plainly -/
def notStar : Expr → Bool
  | .Starred .. => false
  | _ => true
theorem star_plain {e : Expr} {es : List Expr} {env : PySem.Env} (h : notStar e = true) : starEach (e :: es) env = (false, eval e env) :: starEach es env := by
  cases e <;> first | rfl | cases h
theorem star_any {pos : Pos} {env : PySem.Env} : ∀ {es : List Expr}, es.all notStar = true → (backTo pos (starEach es env)).any (·.1) = false
  | [], _ => rfl
  | e :: es, h => by
    simp only [List.all_cons, Bool.and_eq_true] at h
    rw [star_plain h.1]
    show (false || (backTo pos (starEach es env)).any (·.1)) = false
    rw [star_any h.2]; rfl
theorem star_all {pos : Pos} {env : PySem.Env} : ∀ {es : List Expr}, es.all notStar = true → (backTo pos (starEach es env)).all (fun x => !x.1) = true
  | [], _ => rfl
  | e :: es, h => by
    simp only [List.all_cons, Bool.and_eq_true] at h
    rw [star_plain h.1]
    show (true && (backTo pos (starEach es env)).all (fun x => !x.1)) = true
    rw [star_all h.2]; rfl
section
variable {X : Cx} {es : List Expr} {t : TA} {pos : Pos} {σ : L2.St} {H : Hp} {pins : List (Addr × Obj)} {s0 : Shared} {Q : Value → Shared → Prop} {f : Addr} {first : List Value}
theorem callWith_G (hk : PySem.W.keepIn X.K (.ref f) = true) (ha : PA X es t) (hs : es.all notStar = true) (I : Inv X pins σ H s0) {R : List V → Hp → Prop} (h : t σ H R) (hnil : es = [] → R [] H)
    (hrun : ∀ us vs H1 s1, Inv X pins σ H1 s1 → Vals vs us → R vs H1 → wpAny (model X.prog X.w) X.A (call (.ref f) (first ++ us)) Q X.xe s1) :
    wpAny (model X.prog X.w) X.A (callWith pos (.ref f) first (backTo pos (starEach es X.env)) []) Q X.xe s0 := by
  cases es with
  | nil =>
    exact PySem.W.callWith_K0 I.kIn hk (hrun [] [] H s0 I .nil (hnil rfl))
  | cons e rest =>
    simp only [List.all_cons, Bool.and_eq_true] at hs
    exact PySem.W.callWith_K (h₀ := X.base) I.ok.mod.kin hk (thn (ha.run pos pins s0 σ H _ I h) fun us s1 ⟨vs, H1, I1, r, q⟩ => ⟨I1.kIn, hrun us vs H1 s1 I1 r q⟩) (star_plain hs.1) (star_any hs.2)
/-- .. a lambda -/
theorem callWith_L (hf : PySem.W.FnAt f s0.heap) (ha : PA X es t) (hs : es.all notStar = true) (I : Inv X pins σ H s0) {R : List V → Hp → Prop} (h : t σ H R) (hnil : es = [] → R [] H)
    (hrun : ∀ us vs H1 s1, Inv X pins σ H1 s1 → Vals vs us → R vs H1 → PySem.W.FnAt f s1.heap ∧ wpAny (model X.prog X.w) X.A (call (.ref f) (first ++ us)) Q X.xe s1) :
    wpAny (model X.prog X.w) X.A (callWith pos (.ref f) first (backTo pos (starEach es X.env)) []) Q X.xe s0 := by
  cases es with
  | nil => exact PySem.W.callWith_F0 hf (hrun [] [] H s0 I .nil (hnil rfl)).2
  | cons e rest =>
    simp only [List.all_cons, Bool.and_eq_true] at hs
    exact PySem.W.callWith_F hf (thn (ha.run pos pins s0 σ H _ I h) fun us s1 ⟨vs, H1, I1, r, q⟩ => hrun us vs H1 s1 I1 r q) (star_plain hs.1) (star_any hs.2)
end
end MP
/-! MP4: which text means which expression; the meaning is sound. -/
namespace MP
open PySem PySem.Spec PyProof.Rows L2 LamX NdefX

/-! ### looks at a text -/
def visB (sc : Scope) (x : Str) : Bool := match sc.names.lookup x with
  | some .local => true
  | some .cell => true
  | some .free => true
  | _ => false
theorem visB_ok {sc : Scope} {x : Str} (h : visB sc x = true) : Vis sc x := by
  unfold visB at h
  split at h
  · exact .inl (by assumption)
  · exact .inr (.inl (by assumption))
  · exact .inr (.inr (by assumption))
  · cases h
def okName (x : Str) : Bool := !(x == ("__debug__" : Str)) && !(x == ("__classdict__" : Str)) && !(decide (x = ("__name__" : Str)))
theorem okName_ok {x : Str} (h : okName x = true) : (x == ("__debug__" : Str)) = false ∧ (x == ("__classdict__" : Str)) = false ∧ x ≠ ("__name__" : Str) := by
  unfold okName at h
  simp only [Bool.and_eq_true, Bool.not_eq_true', decide_eq_false_iff_not] at h
  exact ⟨h.1.1, h.1.2, h.2⟩
def glB (sc : Scope) (x : Str) : Bool := (match sc.names.lookup x with | some .globalImplicit => true | _ => false) && okName x
theorem glB_ok {X : Cx} {x : Str} (h : glB X.env.scope x = true) : Gl X x ∧ okName x = true := by
  unfold glB at h
  simp only [Bool.and_eq_true] at h
  refine ⟨?_, h.2⟩
  have h1 := h.1
  split at h1
  · assumption
  · cases h1
def plainObj : Expr → Bool
  | .Name .. => true
  | .Attribute .. => true
  | .Subscript .. => true
  | .Constant .. => true
  | _ => false
theorem base_plain {o : Expr} {f : Str} {env : PySem.Env} {w : Sem Value} (h : plainObj o = true) : attributeBase o f env w = w := by
  cases o <;> first | rfl | cases h
theorem meth_tree {o : Expr} {m : Str} {apos pos : Pos} {es : List Expr} {env : PySem.Env} (h : plainObj o = true) (hs : es.all notStar = true) (hl : (apos.endLine == pos.line) = true) (hn : es.length < 30) : eval (.Call (.Attribute o m apos) es [] pos) env = (do
      let ov ← eval o env
      standAt apos.atName
      let (f, first) ← holding [ov] (getMethod ov m (do return (← importBound o env).getD true))
      callWith pos f first (backTo pos (starEach es env)) (backToKw pos (keywordEach [] env))) := by
  have hform : methodCallForm (es.length + ([] : List Keyword).length) (backTo pos (starEach es env)) (backToKw pos (keywordEach [] env)) = true := by
    unfold methodCallForm
    rw [star_all hs]
    show (true && true && decide (es.length + 0 + 0 < 30)) = true
    rw [decide_eq_true (show es.length + 0 + 0 < 30 from hn)]; rfl
  have hpos : methodCallPos true o env apos pos = pure pos := by unfold methodCallPos; simp [hl]
  rw [arm_eval_Call, base_plain h]
  unfold methodCall
  rw [hform]
  unfold calleeOf
  simp only [hpos, if_true, pure_bind]
def plainIx : Expr → Bool
  | .Slice .. => false
  | _ => true
theorem plainIx_ok {b : Expr} (h : plainIx b = true) : PlainIx b := by
  intro o i
  cases b <;> first | rfl | cases h
def notSet : Expr → Bool
  | .Set .. => false
  | _ => true
theorem notSet_ok {e : Expr} {env : PySem.Env} (h : notSet e = true) : ∀ x, foldedSetIterable e env x = pure x := by
  intro x
  cases e <;> first | rfl | cases h
theorem notSet_in {op : CmpOp} {e : Expr} (h : notSet e = true) : behindInMarks op e = false := by
  cases e <;> first | rfl | cases h
theorem notSet_last {op op' : CmpOp} {b e : Expr} (h : notSet e = true) : lastMarks [op, op'] [b, e] = false := by
  show lastMarks [op'] [e] = false
  exact notSet_in h
/-- a test that is asked by its value -/
theorem notSet_last3 {op op' op'' : CmpOp} {b d e : Expr} (h : notSet e = true) : lastMarks [op, op', op''] [b, d, e] = false := by
  show lastMarks [op''] [e] = false
  exact notSet_in h
/-- a test that is asked by its value -/
def plainTest : Expr → Bool
  | .BoolOp .. => false
  | .UnaryOp .Not _ _ => false
  | .IfExp .. => false
  | .Compare .. => false
  | _ => true
theorem plainTest_ok {e : Expr} {env : PySem.Env} (h : plainTest e = true) : ∀ whole, isTrue e env whole = (do let v ← whole; standAt e.pos; holding [v] (truthy v)) := by
  intro whole
  cases e with
  | UnaryOp op x pos => cases op <;> first | rfl | cases h
  | _ => first | rfl | cases h
def tgB (sc scope : Scope) (x : Str) : Bool := match (relS scope sc).names.lookup x with
  | some .local => true
  | some .cell => (match scope.names.lookup x with | some .cell => true | _ => false)
  | _ => false
def tyNames : List String := ["int", "bool", "tuple", "list", "str"]
theorem ty_boot : ∀ T ∈ tyNames, bootBuiltins (Str.ofString T) = some (.type T) := by
  intro T h
  simp only [tyNames, List.mem_cons, List.mem_nil_iff, or_false] at h
  rcases h with rfl | rfl | rfl | rfl | rfl <;> decide +kernel
def ctyB : Value → Bool
  | .type _ => true
  | _ => false
theorem bid_boot : ∀ b : Bid, bootBuiltins (bidF b).1 = some (bidF b).2 := by
  intro b
  cases b <;> first | decide +kernel | (show bootBuiltins "isinstance" = some (.builtin "isinstance"); decide +kernel)

/-! ### views of a text -/
def vName : Expr → Option Str
  | .Name x _ => some x
  | _ => none
def vLam : Expr → Option (Arguments × Expr × Scope)
  | .Lambda ps b sc _ => some (ps, b, sc)
  | _ => none
def vConst : Expr → Option Const
  | .Constant k _ _ => some k
  | _ => none
def vBin : Expr → Option (Expr × Operator × Expr)
  | .BinOp l o r _ => some (l, o, r)
  | _ => none
def vUn : Expr → Option (UnaryOp × Expr)
  | .UnaryOp o x _ => some (o, x)
  | _ => none
def vBool : Expr → Option (BoolOp × List Expr)
  | .BoolOp o x _ => some (o, x)
  | _ => none
def vCmp1 : Expr → Option (Expr × CmpOp × Expr)
  | .Compare l os rs _ => (match os, rs with
    | [o], [r] => some (l, o, r)
    | _, _ => none)
  | _ => none
def vCmp2 : Expr → Option (Expr × CmpOp × Expr × CmpOp × Expr)
  | .Compare l os rs _ => (match os, rs with
    | [o, o'], [m, r] => some (l, o, m, o', r)
    | _, _ => none)
  | _ => none
def vCmp3 : Expr → Option (Expr × CmpOp × Expr × CmpOp × Expr × CmpOp × Expr)
  | .Compare l os rs _ => (match os, rs with
    | [o, o', o''], [m, r, r'] => some (l, o, m, o', r, o'', r')
    | _, _ => none)
  | _ => none
/-- list(reversed(x)): the two names, x -/
def vRevL : Expr → Option (Expr × Expr × Expr)
  | .Call f es ks _ => (match es, ks with
    | [.Call g es' ks' _], [] => (match es', ks' with
      | [x], [] => some (f, g, x)
      | _, _ => none)
    | _, _ => none)
  | _ => none
def vIf : Expr → Option (Expr × Expr × Expr)
  | .IfExp c a b _ => some (c, a, b)
  | _ => none
def vSub : Expr → Option (Expr × Expr)
  | .Subscript a b _ => some (a, b)
  | _ => none
def vSl : Expr → Option (Option Expr × Option Expr)
  | .Slice l h none _ => some (l, h)
  | _ => none
def vM1 : Expr → Bool
  | .UnaryOp o x _ => decide (o = .USub) && (match vConst x with
    | some (.int i) => decide (i = 1)
    | _ => false)
  | _ => false
def vRev : Expr → Bool
  | .Slice none none (some e) _ => vM1 e
  | _ => false
def vTup : Expr → Option (List Expr)
  | .Tuple es _ _ => some es
  | _ => none
def vLst : Expr → Option (List Expr)
  | .List es _ => some es
  | _ => none
def vCall : Expr → Option (Expr × List Expr)
  | .Call f es kws _ => (match kws with
    | [] => some (f, es)
    | _ => none)
  | _ => none
def vIsCall : Expr → Bool
  | .Call .. => true
  | _ => false
def vMeth : Expr → Option (Expr × Str × List Expr × Bool)
  | .Call f es kws pos => (match f, kws with
    | .Attribute o m ap, [] => some (o, m, es, ap.endLine == pos.line)
    | _, _ => none)
  | _ => none
def vAttr : Expr → Option (Expr × Str)
  | .Attribute o f _ => some (o, f)
  | _ => none
def vGen : List Comprehension → Option (Str × Expr × List Expr)
  | [⟨t, iter, ifs, as⟩] => (match vName t with
    | some x => if as = 0 then some (x, iter, ifs) else none
    | none => none)
  | _ => none
def vLC : Expr → Option (Expr × Scope × List Comprehension)
  | .ListComp el gs scope _ => some (el, scope, gs)
  | _ => none
theorem vName_ok {e : Expr} {x : Str} (h : vName e = some x) : ∃ pos, e = .Name x pos := by cases e <;> cases h; exact ⟨_, rfl⟩
theorem vLam_ok {e b : Expr} {ps : Arguments} {sc : Scope} (h : vLam e = some (ps, b, sc)) : ∃ pos, e = .Lambda ps b sc pos := by cases e <;> cases h; exact ⟨_, rfl⟩
theorem vConst_ok {e : Expr} {x : Const} (h : vConst e = some x) : ∃ k pos, e = .Constant x k pos := by cases e <;> cases h; exact ⟨_, _, rfl⟩
theorem vBin_ok {e l r : Expr} {o : Operator} (h : vBin e = some (l, o, r)) : ∃ pos, e = .BinOp l o r pos := by cases e <;> cases h; exact ⟨_, rfl⟩
theorem vUn_ok {e x : Expr} {o : UnaryOp} (h : vUn e = some (o, x)) : ∃ pos, e = .UnaryOp o x pos := by cases e <;> cases h; exact ⟨_, rfl⟩
theorem vBool_ok {e : Expr} {x : List Expr} {o : BoolOp} (h : vBool e = some (o, x)) : ∃ pos, e = .BoolOp o x pos := by cases e <;> cases h; exact ⟨_, rfl⟩
theorem vCmp1_ok {e l r : Expr} {o : CmpOp} (h : vCmp1 e = some (l, o, r)) : ∃ pos, e = .Compare l [o] [r] pos := by
  unfold vCmp1 at h
  split at h
  · split at h
    · cases h; exact ⟨_, rfl⟩
    · cases h
  · cases h
theorem vCmp2_ok {e l m r : Expr} {o o' : CmpOp} (h : vCmp2 e = some (l, o, m, o', r)) : ∃ pos, e = .Compare l [o, o'] [m, r] pos := by
  unfold vCmp2 at h
  split at h
  · split at h
    · cases h; exact ⟨_, rfl⟩
    · cases h
  · cases h
theorem vCmp3_ok {e l m r r' : Expr} {o o' o'' : CmpOp} (h : vCmp3 e = some (l, o, m, o', r, o'', r')) : ∃ pos, e = .Compare l [o, o', o''] [m, r, r'] pos := by
  unfold vCmp3 at h
  split at h
  · split at h
    · cases h; exact ⟨_, rfl⟩
    · cases h
  · cases h
theorem vRevL_ok {e f g x : Expr} (h : vRevL e = some (f, g, x)) : ∃ p q, e = .Call f [.Call g [x] [] q] [] p := by
  unfold vRevL at h
  split at h
  · split at h
    · split at h
      · cases h; exact ⟨_, _, rfl⟩
      · cases h
    · cases h
  · cases h
theorem vIf_ok {e a b c : Expr} (h : vIf e = some (c, a, b)) : ∃ pos, e = .IfExp c a b pos := by cases e <;> cases h; exact ⟨_, rfl⟩
theorem vSub_ok {e a b : Expr} (h : vSub e = some (a, b)) : ∃ pos, e = .Subscript a b pos := by cases e <;> cases h; exact ⟨_, rfl⟩
theorem vSl_ok {e : Expr} {l u : Option Expr} (h : vSl e = some (l, u)) : ∃ pos, e = .Slice l u none pos := by
  unfold vSl at h
  split at h
  · cases h; exact ⟨_, rfl⟩
  · cases h
theorem vM1_ok {e : Expr} (h : vM1 e = true) : ∃ k p q, e = .UnaryOp .USub (.Constant (.int 1) k p) q := by
  unfold vM1 at h
  split at h
  · simp only [Bool.and_eq_true, decide_eq_true_eq] at h
    obtain ⟨rfl, h⟩ := h
    split at h
    · rename_i i hi
      obtain ⟨k, p, rfl⟩ := vConst_ok hi
      simp only [decide_eq_true_eq] at h
      subst h
      exact ⟨_, _, _, rfl⟩
    · cases h
  · cases h
theorem vRev_ok {e : Expr} (h : vRev e = true) : ∃ k p q r, e = .Slice none none (some (.UnaryOp .USub (.Constant (.int 1) k p) q)) r := by
  unfold vRev at h
  split at h
  · obtain ⟨k, p, q, rfl⟩ := vM1_ok h
    exact ⟨_, _, _, _, rfl⟩
  · cases h
theorem vTup_ok {e : Expr} {es : List Expr} (h : vTup e = some es) : ∃ k pos, e = .Tuple es k pos := by cases e <;> cases h; exact ⟨_, _, rfl⟩
theorem vLst_ok {e : Expr} {es : List Expr} (h : vLst e = some es) : ∃ pos, e = .List es pos := by cases e <;> cases h; exact ⟨_, rfl⟩
theorem vCall_ok {e f : Expr} {es : List Expr} (h : vCall e = some (f, es)) : ∃ pos, e = .Call f es [] pos := by
  unfold vCall at h
  split at h
  · split at h
    · cases h; exact ⟨_, rfl⟩
    · cases h
  · cases h
theorem vIsCall_ok {e : Expr} (h : vIsCall e = true) : ∃ f es kws pos, e = .Call f es kws pos := by cases e <;> cases h; exact ⟨_, _, _, _, rfl⟩
theorem vMeth_ok {e o : Expr} {m : Str} {es : List Expr} {b : Bool} (h : vMeth e = some (o, m, es, b)) : ∃ ap pos, e = .Call (.Attribute o m ap) es [] pos ∧ b = (ap.endLine == pos.line) := by
  unfold vMeth at h
  split at h
  · split at h
    · cases h; exact ⟨_, _, rfl, rfl⟩
    · cases h
  · cases h
theorem vAttr_ok {e o : Expr} {f : Str} (h : vAttr e = some (o, f)) : ∃ pos, e = .Attribute o f pos := by cases e <;> cases h; exact ⟨_, rfl⟩
theorem vGen_ok {gs : List Comprehension} {x : Str} {iter : Expr} {ifs : List Expr} (h : vGen gs = some (x, iter, ifs)) : ∃ p, gs = [⟨.Name x p, iter, ifs, 0⟩] := by
  unfold vGen at h
  split at h
  · split at h
    · rename_i y hy
      obtain ⟨p, rfl⟩ := vName_ok hy
      split at h
      · rename_i z
        cases h; subst z; exact ⟨_, rfl⟩
      · cases h
    · cases h
  · cases h
theorem vLC_ok {e el : Expr} {sc : Scope} {gs : List Comprehension} (h : vLC e = some (el, sc, gs)) : ∃ pos, e = .ListComp el gs sc pos := by cases e <;> cases h; exact ⟨_, rfl⟩

def vDict0 : Expr → Bool
  | .Dict [] [] _ => true
  | _ => false
theorem vDict0_ok {e : Expr} (h : vDict0 e = true) : ∃ pos, e = .Dict [] [] pos := by
  cases e <;> try (cases h; done)
  rename_i ks vs pos
  cases ks with
  | cons _ _ => cases h
  | nil => cases vs with
    | cons _ _ => cases h
    | nil => exact ⟨pos, rfl⟩

/-! ### the text of an expression -/
def namesB (sc : Scope) : List Str → List Expr → Bool
  | [], [] => true
  | T :: Ts, e :: es => (match vName e with
    | some x => decide (x = T) && glB sc T
    | none => false) && namesB sc Ts es
  | _, _ => false
def mName : Mid → String
  | .ins => "insert" | .ext => "extend" | .clr => "clear" | .popA => "pop"
def mArgs : Mid → List Expr → Bool
  | .clr, [] => true
  | .clr, _ => false
  | _, [] => false
  | _, _ => true
def noIf : E → Bool
  | .ife _ _ _ => false
  | _ => true
def noIfs : Es → Bool
  | .nil => true
  | .cons a as => noIf a && noIfs as
def noIfo : Eo → Bool
  | .none => true
  | .some a => noIf a
mutual
def okE (N : List Str) (sc : Scope) (G : Gs) : E → Expr → Bool
  | .var i, e => match vName e with
    | some x => decide (N[i]? = some x) && visB sc x && okName x
    | none => false
  | .non, e => match vConst e with
    | some .none => true
    | _ => false
  | .bl b, e => match vConst e with
    | some (.bool b') => decide (b = b')
    | _ => false
  | .int i, e => match vConst e with
    | some (.int j) => decide (i = j)
    | _ => false
  | .str x, e => match vConst e with
    | some (.str y) => decide (x = y)
    | _ => false
  | .fn x, e => match vName e with
    | some y => decide (x = y) && glB sc x && decide (x ∈ G.fns)
    | none => match vLam e with
      | some (ps, b, s2) => G.lm && G.okl x ps b s2
      | none => false
  | .con x i, e => match vName e with
    | some y => decide (x = y) && glB sc x && decide ((x, i) ∈ G.cons)
    | none => false
  | .bin op a b, e => match vBin e with
    | some (l, o, r) => decide (o = opB op) && okE N sc G a l && okE N sc G b r
    | none => false
  | .neg a, e => match vUn e with
    | some (o, x) => decide (o = .USub) && okE N sc G a x
    | none => false
  | .nt a, e => match vUn e with
    | some (o, x) => decide (o = .Not) && noIf a && okE N sc G a x
    | none => false
  | .an es, e => match vBool e with
    | some (o, vs) => decide (o = .And) && noIfs es && okEs N sc G es vs && !vs.isEmpty
    | none => false
  | .orr es, e => match vBool e with
    | some (o, vs) => decide (o = .Or) && noIfs es && okEs N sc G es vs && !vs.isEmpty
    | none => false
  | .cmp op a b, e => match vCmp1 e with
    | some (l, o, r) => decide (o = copB op) && notSet r && okE N sc G a l && okE N sc G b r
    | none => false
  | .chn op op' a b c, e => match vCmp2 e with
    | some (l, o, m, o', r) => decide (o = copB op) && decide (o' = copB op') && notSet r && okE N sc G a l && okE N sc G b m && okE N sc G c r
    | none => false
  | .chn3 op op' op'' a b c d, e => match vCmp3 e with
    | some (l, o, m, o', r, o'', r') => decide (o = copB op) && decide (o' = copB op') && decide (o'' = copB op'') && notSet r' && okE N sc G a l && okE N sc G b m && okE N sc G c r && okE N sc G d r'
    | none => false
  | .revL a, e => match vRevL e with
    | some (f, g, x) => (match vName f, vName g with
      | some y, some z => decide (y = ("list" : Str)) && decide (z = ("reversed" : Str)) && glB sc "list" && glB sc "reversed" && decide (("list" : Str) ∈ G.blt) && decide (("reversed" : Str) ∈ G.blt) && notStar x && okE N sc G a x
      | _, _ => false)
    | none => false
  | .ife c a b, e => match vIf e with
    | some (t, x, y) => noIf c && okE N sc G c t && okE N sc G a x && okE N sc G b y
    | none => false
  | .ix a b, e => match vSub e with
    | some (x, y) => plainIx y && okE N sc G a x && okE N sc G b y
    | none => false
  | .sl a lo hi, e => match vSub e with
    | some (x, y) => okE N sc G a x && (match vSl y with
      | some (l, h) => okEo N sc G lo l && okEo N sc G hi h
      | none => false)
    | none => false
  | .rev a, e => match vSub e with
    | some (x, y) => vRev y && okE N sc G a x
    | none => false
  | .tup es, e => match vTup e with
    | some vs => vs.all notStar && okEs N sc G es vs
    | none => false
  | .lst es, e => match vLst e with
    | some vs => vs.all notStar && okEs N sc G es vs
    | none => false
  | .dnew, e => vDict0 e
  | .lstC es, e => match vLst e with
    | some vs => vs.all notStar && okEs N sc G es vs
    | none => false
  | .call f es, e => match vCall e with
    | some (g, args) => (match vName g with
      | some y => decide (f = y) && glB sc f && decide (f ∈ G.fns) && args.all notStar && okEs N sc G es args
      | none => false)
    | none => false
  | .callv i es, e => match vCall e with
    | some (g, args) => (match vName g with
      | some x => decide (N[i]? = some x) && visB sc x && okName x && args.all notStar && okEs N sc G es args
      | none => false)
    | none => false
  | .callc f es, e => match vCall e with
    | some (g, args) => vIsCall g && okE N sc G f g && args.all notStar && okEs N sc G es args
    | none => false
  | .blt b es, e => match vCall e with
    | some (g, args) => (match vName g with
      | some y => decide (y = (bidF b).1) && glB sc y && decide (y ∈ G.blt) && args.all notStar && !args.isEmpty && (match b with
        | .isin T => (match args with
          | [x, t] => (match vName t with
            | some t => decide (t = Str.ofString T) && decide (T ∈ tyNames) && glB sc t && decide (t ∈ G.blt) && okEs N sc G es [x]
            | none => false)
          | _ => false)
        | _ => okEs N sc G es args)
      | none => false)
    | none => false
  | .isT a Ts subs, e => match vCall e with
    | some (g, args) => (match vName g with
      | some y => decide (y = ("isinstance" : Str)) && glB sc y && decide (y ∈ G.blt) && args.all notStar && decide ((Ts, subs) ∈ G.ist) && (match args with
        | [x, t] => (match vTup t with
          | some es => es.all notStar && namesB sc Ts es && decide (es.length ≤ sizeLine) && okE N sc G a x
          | none => false)
        | _ => false)
      | none => false)
    | none => false
  | .mc m o es, e => match vMeth e with
    | some (ob, m', args, ln) => decide (m' = Str.ofString (mName m)) && ln && decide (args.length < 30) && plainObj ob && okE N sc G o ob && args.all notStar && mArgs m args && okEs N sc G es args
    | none => false
  | .isE a T subs, e => match vCall e with
    | some (g, args) => (match vName g with
      | some y => decide (y = ("isinstance" : Str)) && glB sc y && decide (y ∈ G.blt) && args.all notStar && decide ((T, subs) ∈ G.isx) && (match args with
        | [x, t] => (match vName t with
          | some t => decide (t = T) && glB sc t && okE N sc G a x
          | none => false)
        | _ => false)
      | none => false)
    | none => false
  | .mk C es, e => match vCall e with
    | some (g, args) => (match vName g with
      | some y => decide (C = y) && glB sc C && decide (C ∈ G.cls) && args.all notStar && okEs N sc G es args
      | none => false)
    | none => false
  | .meth o m es, e => match vMeth e with
    | some (ob, m', args, ln) => decide (m = m') && ln && decide (args.length < 30) && plainObj ob && okE N sc G o ob && args.all notStar && okEs N sc G es args
    | none => false
  | .join a b, e => match vMeth e with
    | some (ob, m', args, ln) => decide (m' = ("join" : Str)) && ln && plainObj ob && okE N sc G a ob && (match args with
      | [l] => notStar l && okE N sc G b l
      | _ => false)
    | none => false
  | .pop o, e => match vMeth e with
    | some (ob, m', args, ln) => decide (m' = ("pop" : Str)) && ln && args.isEmpty && plainObj ob && okE N sc G o ob
    | none => false
  | .fld o f, e => match vAttr e with
    | some (ob, f') => decide (f = f') && plainObj ob && decide (f ∈ G.flds) && okE N sc G o ob
    | none => false
  | .lc _ i src cond elt, e => match vLC e with
    | some (el, scope, gs) => (match vGen gs with
      | some (x, iter, ifs) => decide (N[i]? = some x) && blkC N sc scope [(x, i)] && tgB sc scope x && notSet iter && noIfo cond && okW N sc G src iter && okC N (relS scope sc) G cond ifs && okE N (relS scope sc) G elt el
      | none => false)
    | none => false
def okEs (N : List Str) (sc : Scope) (G : Gs) : Es → List Expr → Bool
  | .nil, es => es.isEmpty
  | .cons a as, es => match es with
    | e :: es => okE N sc G a e && okEs N sc G as es
    | [] => false
def okEo (N : List Str) (sc : Scope) (G : Gs) : Eo → Option Expr → Bool
  | .none, e => e.isNone
  | .some a, e => match e with
    | some e => okE N sc G a e
    | none => false
def okC (N : List Str) (sc : Scope) (G : Gs) : Eo → List Expr → Bool
  | .none, e => e.isEmpty
  | .some a, e => match e with
    | [e] => okE N sc G a e
    | _ => false
def okW (N : List Str) (sc : Scope) (G : Gs) : W → Expr → Bool
  | .seq a, e => okE N sc G a e
  | .rng a, e => match vCall e with
    | some (g, args) => (match vName g with
      | some y => decide (y = ("range" : Str)) && glB sc y && decide (y ∈ G.blt) && (match args with
        | [x] => notStar x && okE N sc G a x
        | _ => false)
      | none => false)
    | none => false
  | .rng2 a b, e => match vCall e with
    | some (g, args) => (match vName g with
      | some y => decide (y = ("range" : Str)) && glB sc y && decide (y ∈ G.blt) && (match args with
        | [x, z] => notStar x && notStar z && okE N sc G a x && okE N sc G b z
        | _ => false)
      | none => false)
    | none => false
end
end MP
/-! MP5: the meaning of an expression is sound. -/
namespace MP
open PySem PySem.Spec PyProof.Rows L2 LamX NdefX

section
variable {X : Cx} {c : Cn} {F : Fn} {G : Gs} {k : Nat} {W : WX}
theorem pt_of {e : Expr} {ev : Env → Sto → Res D} (hp : plainTest e = true) (h : PE X e (tE c W ev)) : PT X e (tT c W ev) :=
  (pt_val h (plainTest_ok hp)).imp fun σ H Q ⟨α, s, δ, rs, re, g⟩ => ⟨α, s, δ, rs, re, g.imp1 fun α' s' H' d l r q v rv => by
    obtain ⟨b, rfl, q⟩ := q
    exact ⟨b, rv.blD, q⟩⟩
theorem snd_var {i : Nat} {x : Str} {pos : Pos} (hN : X.N[i]? = some x) (hv : Vis X.env.scope x) (hd : okName x = true) : PE X (.Name x pos) (tE c W (evE F (.var i))) :=
  (pe_var hN hv (okName_ok hd).1 (okName_ok hd).2.1).imp fun σ H Q ⟨α, s, δ, rs, re, g⟩ => by
    dsimp only [evE, getV] at g
    split at g
    · rename_i d hd
      obtain ⟨v, e, r⟩ := re.get i d hd
      exact ⟨v, e, g.here rs r⟩
    · exact g.elim
theorem snd_c {e : Expr} {v : V} {d : D} {ev : Env → Sto → Res D} (he : ∀ δ s, ev δ s = .ok d s) (h : PE X e (tC v)) (r : ∀ c α s H, Rep c α s H v d) : PE X e (tE c W ev) :=
  h.imp fun σ H Q ⟨α, s, δ, rs, re, g⟩ => by
    rw [he] at g
    exact g.here rs (r _ _ _ _)
theorem snd_bin {op : Bop} {a b : E} {l r : Expr} {pos : Pos} (w : Wd X c F G k) (ha : PE X l (tE c W (evE F a))) (hb : PE X r (tE c W (evE F b))) : PE X (.BinOp l (opB op) r pos) (tE c W (evE F (.bin op a b))) :=
  (pe_op opR_rW ha hb).imp fun σ H Q ⟨α, s, δ, rs, re, g⟩ => by
    dsimp only [evE] at g
    exact tE.first rs re g fun α1 s1 H1 v x l1 rs1 re1 rv g1 => tE.first rs1 re1 g1 fun α2 s2 H2 u y l2 rs2 re2 ru g2 => bin_ok w.eK rs2 (rv.mono l2) ru g2
theorem room_u (w : Wd X c F G k) : X.A.units + 101 < cLine := by have := w.room.un; omega
theorem snd_cmp {op : Cop} {a b : E} {l r : Expr} {pos : Pos} (w : Wd X c F G k) (hr : notSet r = true) (ha : PE X l (tE c W (evE F a))) (hb : PE X r (tE c W (evE F b))) :
    PE X (.Compare l [copB op] [r] pos) (tE c W (evE F (.cmp op a b))) ∧ PT X (.Compare l [copB op] [r] pos) (tT c W (evE F (.cmp op a b))) := by
  refine ⟨(pe_cmpR opR_rW ha hb (notSet_in hr)).imp fun σ H Q ⟨α, s, δ, rs, re, g⟩ => ?_, (pt_cmpR opR_rW ha hb (notSet_in hr)).imp fun σ H Q ⟨α, s, δ, rs, re, g⟩ => ?_⟩
  · dsimp only [evE] at g
    exact tE.first rs re g fun α1 s1 H1 v x l1 rs1 re1 rv g1 => tE.first rs1 re1 g1 fun α2 s2 H2 u y l2 rs2 re2 ru g2 => cmp_ok w.eK (room_u w) rs2 (rv.mono l2) ru g2
  · dsimp only [evE] at g
    refine tE.first rs re g fun α1 s1 H1 v x l1 rs1 re1 rv g1 => tE.first rs1 re1 g1 fun α2 s2 H2 u y l2 rs2 re2 ru g2 => cmp_ok (E := WE W σ) w.eK (room_u w) rs2 (rv.mono l2) ru (g2.imp1 fun α' s' H' d l' rs' q v' rv' => ?_)
    obtain ⟨b, rfl, q⟩ := q
    exact ⟨b, rv'.blD, q⟩
theorem snd_chn {op op' : Cop} {a b d : E} {l m r : Expr} {pos : Pos} (w : Wd X c F G k) (hr : notSet r = true) (ha : PE X l (tE c W (evE F a))) (hb : PE X m (tE c W (evE F b))) (hc : PE X r (tE c W (evE F d))) :
    PE X (.Compare l [copB op, copB op'] [m, r] pos) (tE c W (evE F (.chn op op' a b d))) ∧ PT X (.Compare l [copB op, copB op'] [m, r] pos) (tT c W (evE F (.chn op op' a b d))) := by
  have core : ∀ {σ : L2.St} {H : Hp} {α : Nat → Addr} {s : Sto} {δ : Env} {P : (Nat → Addr) → Sto → Hp → D → Prop} {Q : VK}, Rs c α s H → RepE c α s H σ δ → Gd c α s H P (WE W σ) (evE F (.chn op op' a b d) δ s) → (∀ α s H d, P α s H d → PV c Q α s H d) →
      tChain (rW X (compareOp (copB op))) (rW X (compareOp (copB op'))) (tE c W (evE F a)) (tE c W (evE F b)) (tE c W (evE F d)) σ H Q := by
    intro σ H α s δ P Q rs re g hP
    dsimp only [evE] at g
    refine tE.first rs re g fun α1 s1 H1 v x l1 rs1 re1 rv g1 => tE.first rs1 re1 g1 fun α2 s2 H2 u y l2 rs2 re2 ru g2 => cmp_ok (E := WE W σ) w.eK (room_u w) rs2 (rv.mono l2) ru (g2.bind.imp1 fun α' s' H' d' l' rs' q v' rv' => ?_)
    obtain ⟨l3, q⟩ := q
    cases d' with
    | bl t =>
      refine ⟨t, rv'.blD, ?_⟩
      cases t with
      | true =>
        rw [if_pos rfl]
        exact tE.first rs' (re2.mono l') q fun α4 s4 H4 v4 z l4 rs4 re4 rv4 g4 => cmp_ok w.eK (room_u w) rs4 ((ru.mono l').mono l4) rv4 (g4.imp1 fun _ _ _ _ _ _ q => hP _ _ _ _ q)
      | false =>
        rw [if_neg Bool.false_ne_true]
        exact Gd.here rs' (Gd.imp1 q fun _ _ _ _ _ _ q => hP _ _ _ _ q) (.bl false)
    | _ => exact (show False from q).elim
  refine ⟨(pe_chain opR_rW opR_rW ha hb hc (notSet_last hr)).imp fun σ H Q ⟨α, s, δ, rs, re, g⟩ => core rs re g fun _ _ _ _ q => q,
    (pt_chain opR_rW opR_rW ha hb hc (notSet_last hr)).imp fun σ H Q ⟨α, s, δ, rs, re, g⟩ => core rs re g fun α' s' H' d q v' rv' => ?_⟩
  obtain ⟨b, rfl, q⟩ := q
  exact ⟨b, rv'.blD, q⟩
theorem snd_chn3 {op op' op'' : Cop} {a b d f : E} {l m r r' : Expr} {pos : Pos} (w : Wd X c F G k) (hr : notSet r' = true) (ha : PE X l (tE c W (evE F a))) (hb : PE X m (tE c W (evE F b))) (hc : PE X r (tE c W (evE F d))) (hd : PE X r' (tE c W (evE F f))) :
    PE X (.Compare l [copB op, copB op', copB op''] [m, r, r'] pos) (tE c W (evE F (.chn3 op op' op'' a b d f))) ∧ PT X (.Compare l [copB op, copB op', copB op''] [m, r, r'] pos) (tT c W (evE F (.chn3 op op' op'' a b d f))) := by
  have core : ∀ {σ : L2.St} {H : Hp} {α : Nat → Addr} {s : Sto} {δ : Env} {P : (Nat → Addr) → Sto → Hp → D → Prop} {Q : VK}, Rs c α s H → RepE c α s H σ δ → Gd c α s H P (WE W σ) (evE F (.chn3 op op' op'' a b d f) δ s) → (∀ α s H d, P α s H d → PV c Q α s H d) →
      tChain3 (rW X (compareOp (copB op))) (rW X (compareOp (copB op'))) (rW X (compareOp (copB op''))) (tE c W (evE F a)) (tE c W (evE F b)) (tE c W (evE F d)) (tE c W (evE F f)) σ H Q := by
    intro σ H α s δ P Q rs re g hP
    dsimp only [evE] at g
    refine tE.first rs re g fun α1 s1 H1 v x l1 rs1 re1 rv g1 => tE.first rs1 re1 g1 fun α2 s2 H2 u y l2 rs2 re2 ru g2 => cmp_ok (E := WE W σ) w.eK (room_u w) rs2 (rv.mono l2) ru (g2.bind.imp1 fun α' s' H' d' l' rs' q v' rv' => ?_)
    obtain ⟨l3, q⟩ := q
    cases d' with
    | bl t =>
      refine ⟨t, rv'.blD, ?_⟩
      cases t with
      | true =>
        rw [if_pos rfl]
        refine tE.first rs' (re2.mono l') q fun α4 s4 H4 v4 z l4 rs4 re4 rv4 g4 => cmp_ok (E := WE W σ) w.eK (room_u w) rs4 ((ru.mono l').mono l4) rv4 (g4.bind.imp1 fun α5 s5 H5 d5 l5 rs5 q5 v5 rv5 => ?_)
        obtain ⟨l6, q5⟩ := q5
        cases d5 with
        | bl t =>
          refine ⟨t, rv5.blD, ?_⟩
          cases t with
          | true =>
            rw [if_pos rfl]
            exact tE.first rs5 (re4.mono l5) q5 fun α7 s7 H7 v7 z7 l7 rs7 re7 rv7 g7 => cmp_ok w.eK (room_u w) rs7 ((rv4.mono l5).mono l7) rv7 (g7.imp1 fun _ _ _ _ _ _ q => hP _ _ _ _ q)
          | false =>
            rw [if_neg Bool.false_ne_true]
            exact Gd.here rs5 (Gd.imp1 q5 fun _ _ _ _ _ _ q => hP _ _ _ _ q) (.bl false)
        | _ => exact (show False from q5).elim
      | false =>
        rw [if_neg Bool.false_ne_true]
        exact Gd.here rs' (Gd.imp1 q fun _ _ _ _ _ _ q => hP _ _ _ _ q) (.bl false)
    | _ => exact (show False from q).elim
  refine ⟨(pe_chain3 opR_rW opR_rW opR_rW ha hb hc hd (notSet_last3 hr)).imp fun σ H Q ⟨α, s, δ, rs, re, g⟩ => core rs re g fun _ _ _ _ q => q,
    (pt_chain3 opR_rW opR_rW opR_rW ha hb hc hd (notSet_last3 hr)).imp fun σ H Q ⟨α, s, δ, rs, re, g⟩ => core rs re g fun α' s' H' d q v' rv' => ?_⟩
  obtain ⟨b, rfl, q⟩ := q
  exact ⟨b, rv'.blD, q⟩
theorem snd_revL {a : E} {x : Expr} {p p2 pos pos2 : Pos} (w : Wd X c F G k) (g1 : glB X.env.scope "list" = true) (g2 : glB X.env.scope "reversed" = true) (h1 : ("list" : Str) ∈ G.blt) (h2 : ("reversed" : Str) ∈ G.blt) (hs : notStar x = true) (ha : PE X x (tE c W (evE F a))) :
    PE X (.Call (.Name "list" p) [.Call (.Name "reversed" p2) [x] [] pos2] [] pos) (tE c W (evE F (.revL a))) :=
  (pe_lstRev w.calm (glB_ok g1).1 (w.blt _ h1) (glB_ok g2).1 (w.blt _ h2) ha (star_plain hs) (star_plain rfl)).imp fun σ H Q ⟨α, s, δ, rs, re, g⟩ => by
    dsimp only [evE] at g
    refine tE.first rs re g fun α1 s1 H1 v x l1 rs1 re1 rv g1 => ?_
    unfold revD at g1
    split at g1
    · rename_i xs hx
      obtain ⟨a, vs, rfl, hs, rl⟩ := rv.seqL rs1 hx
      rw [w.eK] at hs
      exact ⟨a, vs, rfl, hs, g1.lstNew rs1 rl.reverse⟩
    · exact g1.elim
theorem snd_neg {a : E} {x : Expr} {pos : Pos} (w : Wd X c F G k) (ha : PE X x (tE c W (evE F a))) : PE X (.UnaryOp .USub x pos) (tE c W (evE F (.neg a))) :=
  (pe_un un_neg ha).imp fun σ H Q ⟨α, s, δ, rs, re, g⟩ => by
    dsimp only [evE] at g
    refine tE.first rs re g fun α1 s1 H1 v x l1 rs1 re1 rv g1 => ?_
    cases x with
    | int i => exact ⟨i, rv.intD, g1.here rs1 (.int _)⟩
    | _ => exact (show False from g1).elim
theorem snd_nt {a : E} {x : Expr} {pos : Pos} (w : Wd X c F G k) (ha : PE X x (tE c W (evE F a))) (ha' : PT X x (tT c W (evE F a))) : PE X (.UnaryOp .Not x pos) (tE c W (evE F (.nt a))) ∧ PT X (.UnaryOp .Not x pos) (tT c W (evE F (.nt a))) := by
  refine ⟨(pe_not ha).imp fun σ H Q ⟨α, s, δ, rs, re, g⟩ => ?_, (pt_not ha').imp fun σ H Q ⟨α, s, δ, rs, re, g⟩ => ?_⟩
  · dsimp only [evE] at g
    refine tE.first rs re g fun α1 s1 H1 v x l1 rs1 re1 rv g1 => ?_
    cases x with
    | bl i => exact ⟨i, rv.blD, g1.here rs1 (.bl _)⟩
    | _ => exact (show False from g1).elim
  · dsimp only [evE] at g
    refine tT.first rs re g (fun x s1 α1 H1 g1 => ?_) fun α1 s1 H1 b l1 rs1 re1 g1 => ?_
    · cases x with
      | bl b => exact ⟨b, rfl⟩
      | _ => exact (show False from g1).elim
    · obtain ⟨b', e, q⟩ := Gd.ok_here rs1 g1
      cases e
      exact q
theorem snd_ife {a b d : E} {t x y : Expr} {pos : Pos} (w : Wd X c F G k) (hc : PT X t (tT c W (evE F d))) (ha : PE X x (tE c W (evE F a))) (hb : PE X y (tE c W (evE F b))) : PE X (.IfExp t x y pos) (tE c W (evE F (.ife d a b))) :=
  (pe_ifExp hc ha hb).imp fun σ H Q ⟨α, s, δ, rs, re, g⟩ => by
    dsimp only [evE] at g
    refine tT.first rs re g (fun x s1 α1 H1 g1 => ?_) fun α1 s1 H1 b l1 rs1 re1 g1 => ?_
    · cases x with
      | bl b => exact ⟨b, rfl⟩
      | _ => exact (show False from g1).elim
    · cases b with
      | true => rw [if_pos rfl]; exact ⟨α1, s1, δ, rs1, re1, g1⟩
      | false => rw [if_neg Bool.false_ne_true]; exact ⟨α1, s1, δ, rs1, re1, g1⟩
theorem snd_ix {a b : E} {x y : Expr} {pos : Pos} (w : Wd X c F G k) (hy : plainIx y = true) (ha : PE X x (tE c W (evE F a))) (hb : PE X y (tE c W (evE F b))) : PE X (.Subscript x y pos) (tE c W (evE F (.ix a b))) :=
  (pe_ix ixR_W ha hb (plainIx_ok hy)).imp fun σ H Q ⟨α, s, δ, rs, re, g⟩ => by
    dsimp only [evE] at g
    exact tE.first rs re g fun α1 s1 H1 v x l1 rs1 re1 rv g1 => tE.first rs1 re1 g1 fun α2 s2 H2 u y l2 rs2 re2 ru g2 => ix_ok w.eK (by have := room_u w; omega) rs2 (rv.mono l2) ru g2
/-- a part of a slice -/
def tO (c : Cn) (W : WX) (ev : Env → Sto → Res (Option Int)) : TO := fun σ H Q => ∃ α s δ, Rs c α s H ∧ RepE c α s H σ δ ∧ Gd c α s H (fun _ _ H' o => Q o H') (WE W σ) (ev δ s)
theorem _root_.L2.PO.imp {e : Option Expr} {t t' : TO} (h : PO X e t) (i : ∀ σ H Q, t' σ H Q → t σ H Q) : PO X e t' := ⟨fun pins s σ H Q I q => h.run pins s σ H Q I (i σ H Q q)⟩
theorem snd_po_none : PO X none (tO c W (evEo F .none)) := po_none.imp fun σ H Q ⟨α, s, δ, rs, re, g⟩ => by
  dsimp only [evEo] at g
  exact g.ok_here rs
theorem snd_po_some {a : E} {e : Expr} (ha : PE X e (tE c W (evE F a))) : PO X (some e) (tO c W (evEo F (.some a))) := (po_some ha).imp fun σ H Q ⟨α, s, δ, rs, re, g⟩ => by
  dsimp only [evEo] at g
  refine tE.first rs re g fun α1 s1 H1 v x l1 rs1 re1 rv g1 => ?_
  cases x with
  | int i => exact ⟨i, rv.intD, g1.ok_here rs1⟩
  | _ => exact (show False from g1).elim
theorem snd_sl {a : E} {lo hi : Eo} {x : Expr} {l h : Option Expr} {p pos : Pos} (w : Wd X c F G k) (ha : PE X x (tE c W (evE F a))) (hl : PO X l (tO c W (evEo F lo))) (hh : PO X h (tO c W (evEo F hi))) : PE X (.Subscript x (.Slice l h none p) pos) (tE c W (evE F (.sl a lo hi))) :=
  (pe_slice slR_W ha hl hh).imp fun σ H Q ⟨α, s, δ, rs, re, g⟩ => by
    dsimp only [evE] at g
    refine tE.first rs re g fun α1 s1 H1 v x l1 rs1 re1 rv g1 => ⟨α1, s1, δ, rs1, re1, g1.bind.imp1 fun α2 s2 H2 o l2 rs2 q2 => ⟨α2, s2, δ, rs2, re1.mono l2, Gd.imp1 (Gd.bind q2.2) fun α3 s3 H3 o' l3 rs3 q3 => ?_⟩⟩
    exact sl_ok w.eK rs3 ((rv.mono l2).mono l3) q3.2
theorem snd_rev {a : E} {x : Expr} {kk : Nat} {p q r pos : Pos} (w : Wd X c F G k) (ha : PE X x (tE c W (evE F a))) : PE X (.Subscript x (.Slice none none (some (.UnaryOp .USub (.Constant (.int 1) kk p) q)) r) pos) (tE c W (evE F (.rev a))) :=
  (pe_revL ha).imp fun σ H Q ⟨α, s, δ, rs, re, g⟩ => by
    dsimp only [evE] at g
    refine tE.first rs re g fun α1 s1 H1 v x l1 rs1 re1 rv g1 => ?_
    unfold revD at g1
    split at g1
    · rename_i xs hx
      obtain ⟨a, vs, rfl, hs, rl⟩ := rv.seqL rs1 hx
      rw [w.eK] at hs
      exact ⟨a, vs, rfl, hs, g1.lstNew rs1 rl.reverse⟩
    · exact g1.elim
theorem snd_tup {es : Es} {vs : List Expr} {kk : Nat} {pos : Pos} (ha : PA X vs (tL c W (evEs F es))) : PE X (.Tuple vs kk pos) (tE c W (evE F (.tup es))) :=
  (pe_tup ha).imp fun σ H Q ⟨α, s, δ, rs, re, g⟩ => by
    dsimp only [evE] at g
    refine tL.first rs re g fun α1 s1 H1 v x l1 rs1 re1 rv g1 => ?_
    obtain ⟨h, g1⟩ := g1.ite
    exact ⟨by rw [rv.length]; exact h, g1.tupNew rs1 rv⟩
theorem snd_lst {es : Es} {vs : List Expr} {pos : Pos} (ha : PA X vs (tL c W (evEs F es))) : PE X (.List vs pos) (tE c W (evE F (.lst es))) :=
  (pe_lst ha).imp fun σ H Q ⟨α, s, δ, rs, re, g⟩ => by
    dsimp only [evE] at g
    refine tL.first rs re g fun α1 s1 H1 v x l1 rs1 re1 rv g1 => ?_
    obtain ⟨h, g1⟩ := g1.ite
    exact ⟨by rw [rv.length]; exact h, g1.lstNew rs1 rv⟩
theorem snd_dnew {pos : Pos} : PE X (.Dict [] [] pos) (tE c W (evE F .dnew)) :=
  (pe_dnewK (X := X) (pos := pos)).imp fun σ H Q ⟨α, s, δ, rs, re, g⟩ => by
    dsimp only [evE] at g
    intro p hp
    have l : Le α s H (αn α s p) (s.new (.dct [])) (upd H p (.dK [])) := Le.newc rs hp
    exact g _ _ l (rs.newc hp ⟨[], upd_same, .nil⟩) (.ref p) (.cell (Nat.lt_succ_self _) fun _ => by rw [αn_new])
theorem snd_lstC {es : Es} {vs : List Expr} {pos : Pos} (ha : PA X vs (tL c W (evEs F es))) : PE X (.List vs pos) (tE c W (evE F (.lstC es))) :=
  (pe_lst ha).imp fun σ H Q ⟨α, s, δ, rs, re, g⟩ => by
    dsimp only [evE] at g
    refine tL.first rs re g fun α1 s1 H1 v x l1 rs1 re1 rv g1 => ?_
    obtain ⟨h, g1⟩ := g1.ite
    exact ⟨by rw [rv.length]; exact h, g1.cellNew rs1 rv⟩
theorem nil_args {es : List Expr} {as : Es} {σ : L2.St} {H : Hp} {R : List V → Hp → Prop} (hk : okEs X.N X.env.scope G as es = true) (h : tL c W (evEs F as) σ H R) (he : es = []) : R [] H := by
  subst he
  cases as with
  | cons a as => simp [okEs] at hk
  | nil =>
    obtain ⟨α, s, δ, rs, re, g⟩ := h
    dsimp only [evEs] at g
    exact g.ok_here rs _ .nil
/-- a call of a value that is a def -/
theorem snd_callv {es : Es} {args : List Expr} {fe : Expr} {fv : Env → Sto → Res D} {pos : Pos} (w : Wd X c F G k) (tk : Takes X W) (hs : args.all notStar = true) (hk : okEs X.N X.env.scope G es args = true) (hf : PE X fe (tE c W fv)) (ha : PA X args (tL c W (evEs F es)))
    (he : (∃ x p, fe = .Name x p) ∨ ∃ g a k p, fe = .Call g a k p) : PE X (.Call fe args [] pos) (tE c W fun δ s => (fv δ s).bind fun f s1 => match f with
    | .fn x => (evEs F es δ s1).bind fun xs s2 => F (.f x) xs s2
    | _ => .bad) := by
  refine ⟨fun pins s0 σ H Q I ⟨α, s, δ, rs, re, g⟩ => ?_⟩
  have go : wpAny (model X.prog X.w) X.A (eval fe X.env) (fun f s₁ => wpAny (model X.prog X.w) X.A (callWith pos f [] (backTo pos (starEach args X.env)) []) (EP X pins σ Q) X.xe s₁) X.xe s0 := by
    refine thn (hf.run pins s0 σ H (fun v H1 => ∃ x a α1 s1, v = .ref a ∧ (c.fn (.f x) = some a ∨ ∃ L b, c.lam x L b ∧ H1 a = some (LamO a L b) ∧ H1 L.c = some (CodeO L.c L.qual)) ∧ Rs c α1 s1 H1 ∧ RepE c α1 s1 H1 σ δ ∧ Gd c α1 s1 H1 (PV c Q) (WE W σ) ((evEs F es δ s1).bind fun xs s2 => F (.f x) xs s2)) I (tE.first rs re g fun α1 s1 H1 v f l1 rs1 re1 rv g1 => ?_)) fun u s1 ⟨v, H1, I1, ru, q⟩ => ?_
    · cases f with
      | fn x =>
        cases rv with
        | fn h => exact ⟨x, _, α1, s1, rfl, .inl h, rs1, re1, g1⟩
        | lam h1 h2 h3 => exact ⟨x, _, α1, s1, rfl, .inr ⟨_, _, h1, h2, h3⟩, rs1, re1, g1⟩
      | _ => exact (show False from g1).elim
    · obtain ⟨x, a, α1, s1', rfl, hx, rs1, re1, g1⟩ := q
      cases ru
      rcases hx with hx | ⟨L, b, hx, hL, hC⟩
      · have h : tL c W (evEs F es) σ H1 (fun vs H2 => ∃ α2 s2 xs, Rs c α2 s2 H2 ∧ RepL c α2 s2 H2 vs xs ∧ Gd c α2 s2 H2 (PV c Q) (WE W σ) (F (.f x) xs s2)) := tL.first rs1 re1 g1 fun α2 s2 H2 vs xs l2 rs2 re2 rv2 g2 => ⟨α2, s2, xs, rs2, rv2, g2⟩
        refine callWith_G (w.run _ a hx).kp ha hs I1 h (nil_args hk h) fun us vs H2 s2 I2 r2 ⟨α2, s2', xs, rs2, rl2, g2⟩ => ?_
        exact call_run w tk hx I2 r2 rs2 rl2 g2
      · have h : tL c W (evEs F es) σ H1 (fun vs H2 => (H2 a = some (LamO a L b) ∧ H2 L.c = some (CodeO L.c L.qual)) ∧ ∃ α2 s2 xs, Rs c α2 s2 H2 ∧ RepL c α2 s2 H2 vs xs ∧ Gd c α2 s2 H2 (PV c Q) (WE W σ) (F (.f x) xs s2)) := tL.first rs1 re1 g1 fun α2 s2 H2 vs xs l2 rs2 re2 rv2 g2 =>
          ⟨⟨l2.ext _ _ hL lamO_tbl fun z => z.elim, l2.ext _ _ hC codeO_tbl fun z => z.elim⟩, α2, s2, xs, rs2, rv2, g2⟩
        refine callWith_L (lam_at I1 hL) ha hs I1 h (nil_args hk h) fun us vs H2 s2 I2 r2 ⟨⟨hL2, hC2⟩, α2, s2', xs, rs2, rl2, g2⟩ => ⟨lam_at I2 hL2, ?_⟩
        exact call_lam w tk hx hL2 hC2 I2 r2 rs2 rl2 g2
  rcases he with ⟨x, p, rfl⟩ | ⟨g', a, kk, p, rfl⟩
  · exact wpAny_Call_Name_kw go
  · exact Call_ go
end
end MP
/-! MP6: calls, methods, comprehensions; every expression's meaning is sound. -/
namespace MP
open PySem PySem.Spec PyProof.Rows L2 LamX NdefX

section
variable {X : Cx} {c : Cn} {F : Fn} {G : Gs} {k : Nat} {W : WX}
theorem snd_call {f : Str} {es : Es} {args : List Expr} {p pos : Pos} (w : Wd X c F G k) (tk : Takes X W) (hg : glB X.env.scope f = true) (hf : f ∈ G.fns) (hs : args.all notStar = true) (hk : okEs X.N X.env.scope G es args = true) (ha : PA X args (tL c W (evEs F es))) :
    PE X (.Call (.Name f p) args [] pos) (tE c W (evE F (.call f es))) := by
  refine ⟨fun pins s0 σ H Q I ⟨α, s, δ, rs, re, g⟩ => ?_⟩
  obtain ⟨g1, g2⟩ := glB_ok hg
  obtain ⟨a, h1, h2⟩ := w.fns f hf
  dsimp only [evE] at g
  have h : tL c W (evEs F es) σ H (fun vs H2 => ∃ α2 s2 xs, Rs c α2 s2 H2 ∧ RepL c α2 s2 H2 vs xs ∧ Gd c α2 s2 H2 (PV c Q) (WE W σ) (F (.f f) xs s2)) := tL.first rs re g fun α2 s2 H2 vs xs l2 rs2 re2 rv2 g2 => ⟨α2, s2, xs, rs2, rv2, g2⟩
  refine wpAny_Call_Name_kw (ld_glob I g1 h2 ?_ (okName_ok g2).1)
  refine callWith_G (w.run _ a h1).kp ha hs I h (nil_args hk h) fun us vs H2 s2 I2 r2 ⟨α2, s2', xs, rs2, rl2, g2⟩ => ?_
  exact call_run w tk h1 I2 r2 rs2 rl2 g2
theorem snd_mk {C : Str} {es : Es} {args : List Expr} {p pos : Pos} (w : Wd X c F G k) (tk : Takes X W) (hg : glB X.env.scope C = true) (hf : C ∈ G.cls) (hs : args.all notStar = true) (hk : okEs X.N X.env.scope G es args = true) (ha : PA X args (tL c W (evEs F es))) :
    PE X (.Call (.Name C p) args [] pos) (tE c W (evE F (.mk C es))) := by
  refine ⟨fun pins s0 σ H Q I ⟨α, s, δ, rs, re, g⟩ => ?_⟩
  obtain ⟨g1, g2⟩ := glB_ok hg
  obtain ⟨a, f, h1, h2, h3, h4⟩ := w.cls C hf
  dsimp only [evE] at g
  have h : tL c W (evEs F es) σ H (fun vs H2 => ∃ α2 s2 xs, Rs c α2 s2 H2 ∧ RepL c α2 s2 H2 vs xs ∧ Gd c α2 s2 H2 (PV c Q) (WE W σ) ((F (.m C "__init__") (.cell s2.nx :: xs) (s2.new (.ins C []))).bind fun r s3 => match r with
    | .non => .ok (.cell s2.nx) s3
    | _ => .bad)) := tL.first rs re g fun α2 s2 H2 vs xs l2 rs2 re2 rv2 g2 => ⟨α2, s2, xs, rs2, rv2, g2⟩
  refine wpAny_Call_Name_kw (ld_glob I g1 h2 ?_ (okName_ok g2).1)
  refine callWith_G h4.kp ha hs I h (nil_args hk h) fun us vs H2 s2 I2 r2 ⟨α2, s2', xs, rs2, rl2, g2⟩ => ?_
  exact make_run w tk h1 h3 h4 I2 r2 rs2 rl2 g2
theorem noexc_sub {β γ : Type} {p : Prop} {r : Res β} {k : β → Sto → Res γ} {α : Nat → Addr} {s : Sto} {H : Hp} {P : (Nat → Addr) → Sto → Hp → γ → Prop} {E : XK} (g : Gd c α s H P E ((r.noexc p).bind k)) : Gd c α s H P E (r.bind k) := by
  cases r with
  | ok a s => exact g
  | exc x s =>
    by_cases h : p
    · rwa [show (Res.exc x s : Res β).noexc p = .exc x s from if_pos h] at g
    · rw [show (Res.exc x s : Res β).noexc p = .bad from if_neg h] at g
      exact (show False from g).elim
  | bad => exact g
theorem snd_meth {o : E} {m : Str} {es : Es} {ob : Expr} {args : List Expr} {ap pos : Pos} (w : Wd X c F G k) (tk : Takes X W) (ho : plainObj ob = true) (hl : (ap.endLine == pos.line) = true) (hn : args.length < 30) (hs : args.all notStar = true) (hk : okEs X.N X.env.scope G es args = true)
    (hob : PE X ob (tE c W (evE F o))) (ha : PA X args (tL c W (evEs F es))) : PE X (.Call (.Attribute ob m ap) args [] pos) (tE c W (evE F (.meth o m es))) := by
  refine ⟨fun pins s0 σ H Q I ⟨α, s, δ, rs, re, g⟩ => ?_⟩
  dsimp only [evE] at g
  have h : tE c W (evE F o) σ H (fun v H1 => ∃ a C Ca dx vfs α1 s1 i, v = .ref a ∧ H1 a = some (.ins Ca dx vfs) ∧ c.cls C = some Ca ∧ vfs.lookup m = none ∧ Rs c α1 s1 H1 ∧ RepE c α1 s1 H1 σ δ ∧ Rep c α1 s1 H1 v (.cell i) ∧ Gd c α1 s1 H1 (PV c Q) (WE W σ) (((evEs F es δ s1).noexc (∃ ys s3, F (.m C m) ys s3 ≠ .bad)).bind fun xs s2 => F (.m C m) (.cell i :: xs) s2)) := by
    refine tE.first rs re g fun α1 s1 H1 v x l1 rs1 re1 rv g1 => ?_
    cases x with
    | cell i =>
      dsimp only at g1
      split at g1
      · rename_i C fs q
        split at g1
        · rename_i q2
          obtain ⟨Ca, dx, vfs, e1, e2, e3⟩ := rs1.cell i _ q
          have hv : v = .ref (α1 i) := by cases rv with | cell h1 h2 => exact h2 (by rw [q]; simp)
          exact ⟨α1 i, C, Ca, dx, vfs, α1, s1, i, hv, e2, e1, (e3.lookup).1 q2, rs1, re1, rv, g1⟩
        · exact g1.elim
      · exact g1.elim
    | _ => exact (show False from g1).elim
  refine PySem.W.methodCall_KW (pl := (do return (← importBound ob X.env).getD true)) (thn (hob.run pins s0 σ H _ I h) fun u s1 ⟨v, H1, I1, ru, a, C, Ca, dx, vfs, α1, s1', i, ev, ea, eC, el, rs1, re1, rv, g1⟩ => ?_) (meth_tree ho hs hl hn)
  subst ev
  obtain rfl : u = Value.ref a := ru
  have g1' := g1
  have g1 : Gd c α1 s1' H1 (PV c Q) (WE W σ) ((evEs F es δ s1').bind fun xs s2 => F (.m C m) (.cell i :: xs) s2) := noexc_sub g1
  have h2 : tL c W (evEs F es) σ H1 (fun vs H2 => ∃ α2 s2 xs, Rs c α2 s2 H2 ∧ RepL c α2 s2 H2 (.ref a :: vs) (.cell i :: xs) ∧ Gd c α2 s2 H2 (PV c Q) (WE W σ) (F (.m C m) (.cell i :: xs) s2)) := tL.first rs1 re1 g1 fun α2 s2 H2 vs xs l2 rs2 re2 rv2 g2 => ⟨α2, s2, xs, rs2, .cons (rv.mono l2) rv2, g2⟩
  -- a call that means something has its method
  by_cases hf : ∃ f, c.fn (.m C m) = some f
  · obtain ⟨f, hf⟩ := hf
    obtain ⟨k1, k2, k3⟩ := w.inst C Ca eC
    have hm := k3 m f hf
    refine getmeth_ok I1 ea k1 hm el ?_
    refine callWith_G (first := [.ref a]) hm.kp ha hs I1 h2 (nil_args hk h2) fun us vs H2 s2 I2 r2 ⟨α2, s2', xs, rs2, rl2, g2⟩ => ?_
    exact call_run (vs := .ref a :: vs) w tk hf I2 (.cons rfl r2) rs2 rl2 g2
  · -- no such method: then the arguments end the run
    have nob : ∀ xs s, F (.m C m) xs s = .bad := fun xs s => Classical.byContradiction fun z => hf (w.live _ _ xs s z)
    cases hx : evEs F es δ s1' with
    | ok xs s2 => rw [hx] at g1'; exact ((show Gd c α1 s1' H1 (PV c Q) (WE W σ) (F (.m C m) (.cell i :: xs) s2) from g1').nb (nob _ _)).elim
    | exc x s2 =>
      rw [hx] at g1'
      rw [show (Res.exc x s2 : Res (List D)).noexc (∃ ys s3, F (.m C m) ys s3 ≠ .bad) = .bad from if_neg fun ⟨ys, s3, z⟩ => z (nob ys s3)] at g1'
      exact (show False from g1').elim
    | bad => rw [hx] at g1'; exact (show False from g1').elim
end
end MP
/-! MP7: built-ins, and, or, comprehensions. -/
namespace MP
open PySem PySem.Spec PyProof.Rows L2 LamX NdefX

section
variable {X : Cx} {c : Cn} {F : Fn} {G : Gs} {k : Nat} {W : WX}
theorem snd_blt {b : Bid} {es : Es} {args : List Expr} {p pos : Pos} (w : Wd X c F G k) (hb : ∀ T, b ≠ .isin T) (hg : glB X.env.scope (bidF b).1 = true) (hf : (bidF b).1 ∈ G.blt) (hs : args.all notStar = true) (hne : args ≠ []) (ha : PA X args (tL c W (evEs F es))) :
    PE X (.Call (.Name (bidF b).1 p) args [] pos) (tE c W (evE F (.blt b es))) := by
  obtain ⟨g1, g2⟩ := glB_ok hg
  obtain ⟨n1, n2, n3⟩ := okName_ok g2
  cases args with
  | nil => exact absurd rfl hne
  | cons e rest =>
    simp only [List.all_cons, Bool.and_eq_true] at hs
    have imp : ∀ (σ : L2.St) (H : Hp) (Q : VK), tE c W (evE F (.blt b es)) σ H Q → tCB (rWC X (bidF b).2) (tL c W (evEs F es)) σ H Q := fun σ H Q ⟨α, s, δ, rs, re, g⟩ => by
      dsimp only [evE] at g
      exact tL.first rs re g fun α1 s1 H1 v x l1 rs1 re1 rv g1 => blt_ok w.eK w.calm hb rs1 rv g1
    have hboot := bid_boot b
    generalize hy : (bidF b).1 = y at *
    generalize hv : (bidF b).2 = f at *
    have hk : (∃ id, f = .builtin id) ∨ ∃ T, f = .type T := by
      rw [← hv]; cases b <;> first | exact .inl ⟨_, rfl⟩ | exact .inr ⟨_, rfl⟩
    rcases hk with ⟨id, rfl⟩ | ⟨T, rfl⟩
    · exact (pe_callB callR_rWC g1 (w.blt y hf) hboot ha n3 n1 (star_plain hs.1) (star_any hs.2)).imp imp
    · exact (pe_callTy callR_rWC g1 (w.blt y hf) hboot ha n3 n1 (star_plain hs.1) (star_any hs.2)).imp imp
theorem snd_isin {T : String} {a : E} {x : Expr} {p q pos : Pos} (w : Wd X c F G k) (hg : glB X.env.scope "isinstance" = true) (hf : ("isinstance" : Str) ∈ G.blt) (hT : T ∈ tyNames) (hg2 : glB X.env.scope (Str.ofString T) = true) (hf2 : Str.ofString T ∈ G.blt) (hs : notStar x = true) (ha : PE X x (tE c W (evE F a))) :
    PE X (.Call (.Name "isinstance" p) [x, .Name (Str.ofString T) q] [] pos) (tE c W (evE F (.blt (.isin T) (.cons a .nil)))) := by
  obtain ⟨g1, g2⟩ := glB_ok hg
  obtain ⟨n1, n2, n3⟩ := okName_ok g2
  obtain ⟨g1', g2'⟩ := glB_ok hg2
  obtain ⟨n1', n2', n3'⟩ := okName_ok g2'
  have hA : PA X [x, .Name (Str.ofString T) q] (tCons (tE c W (evE F a)) (tCons (tC (.ty T)) tNil)) :=
    pa_cons ha (pa_cons (pe_bltn g1' (w.blt _ hf2) (ty_boot T hT) rfl n3' n1') pa_nil (star_plain rfl)) (star_plain hs)
  refine (pe_callB call_isi g1 (w.blt _ hf) (by decide +kernel) hA n3 n1 (star_plain hs) (star_any (es := [.Name (Str.ofString T) q]) rfl)).imp fun σ H Q ⟨α, s, δ, rs, re, g⟩ => ?_
  dsimp only [evE, evEs] at g
  cases hx : evE F a δ s with
  | bad => rw [hx] at g; exact (show False from g).elim
  | exc x s2 =>
    rw [hx] at g
    exact ⟨α, s, δ, rs, re, by rw [hx]; exact g⟩
  | ok d s1 =>
    rw [hx] at g
    refine ⟨α, s, δ, rs, re, ?_⟩
    rw [hx]
    intro α1 H1 l1 rs1 v rv
    have g1 : Gd c α1 s1 H1 (PV c Q) (WE W σ) (bltD (.isin T) [d] s1) := Gd.step l1 g
    have g1 : Gd c α1 s1 H1 (PV c Q) (WE W σ) (okO ((isinD T d s1).map D.bl) s1) := g1
    obtain ⟨d', e, g1⟩ := g1.okO
    rw [Option.map_eq_some_iff] at e
    obtain ⟨b, e, rfl⟩ := e
    obtain ⟨t, h1, h2⟩ := isin_ok rs1 rv e
    rw [w.eK] at h1 h2
    exact ⟨v, .ty T, t, .type T, b, rfl, .ty T, h1, h2, g1.here rs1 (.bl _)⟩
theorem lookup_in {β : Type} : ∀ {l : List (Str × β)} {x : Str} {b : β}, l.lookup x = some b → (x, b) ∈ l
  | [], _, _, h => by cases h
  | (y, d) :: l, x, b, h => by
    rw [List.lookup_cons] at h
    split at h
    · rename_i e
      rw [beq_iff_eq] at e
      cases h
      subst e
      exact List.mem_cons_self
    · exact List.mem_cons_of_mem _ (lookup_in h)
theorem snd_isE {T : Str} {subs : List (Str × Bool)} {a : E} {x : Expr} {p q pos : Pos} (w : Wd X c F G k) (hg : glB X.env.scope "isinstance" = true) (hf : ("isinstance" : Str) ∈ G.blt) (hT : (T, subs) ∈ G.isx) (hg2 : glB X.env.scope T = true) (hs : notStar x = true) (ha : PE X x (tE c W (evE F a))) :
    PE X (.Call (.Name "isinstance" p) [x, .Name T q] [] pos) (tE c W (evE F (.isE a T subs))) := by
  obtain ⟨g1, g2⟩ := glB_ok hg
  obtain ⟨n1, n2, n3⟩ := okName_ok g2
  obtain ⟨g1', g2'⟩ := glB_ok hg2
  obtain ⟨n1', n2', n3'⟩ := okName_ok g2'
  have hx := w.isx _ hT
  dsimp only at hx
  have key : ∃ (tv : V) (cv : Value), PE X (.Name T q) (tC tv) ∧ (∀ u, RelV tv u → u = cv) ∧ ∀ r ∈ subs, ∃ Ca, c.exc r.1 = some Ca ∧ L2.ExcC X.K Ca ∧ PySem.W.kitOne X.K (.ref Ca) cv = some r.2 := by
    split at hx
    · rename_i eT
      subst eT
      exact ⟨.ty "ValueError", .type "ValueError", pe_bltn g1' hx.1 (by decide +kernel) rfl n3' n1', fun u r => r, hx.2⟩
    · obtain ⟨Ta, e1, e2⟩ := hx
      exact ⟨.ref Ta, .ref Ta, pe_glob g1' e1 rfl n1', fun u r => r, e2⟩
  obtain ⟨tv, cv, hP, hcv, hall⟩ := key
  have hA : PA X [x, .Name T q] (tCons (tE c W (evE F a)) (tCons (tC tv) tNil)) :=
    pa_cons ha (pa_cons hP pa_nil (star_plain rfl)) (star_plain hs)
  refine (pe_callB call_isK g1 (w.blt _ hf) (by decide +kernel) hA n3 n1 (star_plain hs) (star_any (es := [.Name T q]) rfl)).imp fun σ H Q ⟨α, s, δ, rs, re, g⟩ => ?_
  dsimp only [evE] at g
  refine ⟨α, s, δ, rs, re, ?_⟩
  cases hx : evE F a δ s with
  | bad => rw [hx] at g; exact (show False from g).elim
  | exc x s2 => rw [hx] at g; exact g
  | ok d s1 =>
    rw [hx] at g
    intro α1 H1 l1 rs1 v rv
    have g1 := Gd.step l1 g
    dsimp only [Res.bind] at g1
    cases d with
    | ex C =>
      obtain ⟨d', e, g1⟩ := Gd.okO g1
      rw [Option.map_eq_some_iff] at e
      obtain ⟨b, e, rfl⟩ := e
      cases rv with
      | ex h0 h1 h2 h4 =>
        obtain ⟨Ca, k1, k2, k3⟩ := hall _ (lookup_in e)
        rw [h0] at k1
        cases k1
        exact ⟨_, _, tv, cv, b, rfl, k2, h1, hcv, k3, g1.here rs1 (.bl _)⟩
    | _ => exact (show False from g1).elim
def tRefs (as : List Addr) : TA := fun _ H Q => Q (as.map V.ref) H
theorem pa_refs {mg : Str → Option Value} (hm : X.mg = mg) : ∀ {Ts : List Str} {as : List Addr} {es : List Expr}, Paired (fun T a => mg T = some (.ref a)) Ts as → es.all notStar = true → namesB X.env.scope Ts es = true → PA X es (tRefs as) ∧ es.length = as.length
  | _, _, [], .nil, _, _ => ⟨pa_nil.imp fun _ _ _ q => q, rfl⟩
  | _, _, _ :: _, .nil, _, h => by cases h
  | _, _, [], .cons _ _, _, h => by cases h
  | T :: Ts, a :: as, e :: es, .cons h1 h2, hs, h => by
    simp only [List.all_cons, Bool.and_eq_true] at hs
    unfold namesB at h
    simp only [Bool.and_eq_true] at h
    obtain ⟨h3, h4⟩ := h
    obtain ⟨ih, hl⟩ := pa_refs hm h2 hs.2 h4
    split at h3
    · rename_i x hx
      obtain ⟨p, rfl⟩ := vName_ok hx
      simp only [Bool.and_eq_true, decide_eq_true_eq] at h3
      obtain ⟨rfl, h5⟩ := h3
      obtain ⟨g1, g2⟩ := glB_ok h5
      have hP : PE X (.Name x p) (L2.tC (.ref a)) := pe_glob g1 (by rw [hm]; exact h1) rfl (okName_ok g2).1
      exact ⟨(pa_cons hP ih (star_plain rfl)).imp fun σ H Q q => q, by simp [hl]⟩
    · cases h3
theorem snd_isT {Ts : List Str} {subs : List (Str × Bool)} {a : E} {x : Expr} {es : List Expr} {kk : Nat} {p p2 pos : Pos} (w : Wd X c F G k) (hg : glB X.env.scope "isinstance" = true) (hf : ("isinstance" : Str) ∈ G.blt) (hT : (Ts, subs) ∈ G.ist) (hn : namesB X.env.scope Ts es = true) (hes : es.all notStar = true) (hl : es.length ≤ sizeLine) (hs : notStar x = true) (ha : PE X x (tE c W (evE F a))) :
    PE X (.Call (.Name "isinstance" p) [x, .Tuple es kk p2] [] pos) (tE c W (evE F (.isT a Ts subs))) := by
  obtain ⟨g1, g2⟩ := glB_ok hg
  obtain ⟨n1, n2, n3⟩ := okName_ok g2
  obtain ⟨as, q1, q2⟩ := w.ist _ hT
  obtain ⟨hr, hlen⟩ := pa_refs rfl q1 hes hn
  have hA := pa_cons ha (pa_cons (pe_tup hr : PE X (.Tuple es kk p2) _) pa_nil (star_plain rfl)) (star_plain hs)
  refine (pe_callB call_isKT g1 (w.blt _ hf) (by decide +kernel) hA n3 n1 (star_plain hs) (star_any (es := [.Tuple es kk p2]) rfl)).imp fun σ H Q ⟨α, s, δ, rs, re, g⟩ => ?_
  dsimp only [evE] at g
  refine tE.first rs re g fun α1 s1 H1 v x l1 rs1 re1 rv g1 => ?_
  cases x with
  | ex C =>
    obtain ⟨d', e, g1⟩ := Gd.okO g1
    rw [Option.map_eq_some_iff] at e
    obtain ⟨b, e, rfl⟩ := e
    cases rv with
    | @ex av _ _ h0 h1 h2 h4 =>
      obtain ⟨Ca, k1, k2, k3⟩ := q2 _ (lookup_in e)
      rw [h0] at k1
      cases k1
      refine ⟨by rw [List.length_map, ← hlen]; exact hl, fun tp hp => ?_⟩
      refine ⟨av, _, tp, as, b, rfl, k2, ?_, upd_same, k3, ?_⟩
      · rw [upd_ne (ne_of_none h1 hp)]; exact h1
      · exact (Gd.step (Le.alloc rs1 hp) g1).here (rs1.alloc hp) (.bl _)
  | _ => exact (show False from g1).elim
/-! ### methods of lists -/
def rMc (m : Mid) : V → List V → Hp → VK → Prop := match m with
  | .ins => fun x vs H Q => ∃ (l : Addr) (xs : List V) (i : Int) (y : V), x = .ref l ∧ vs = [.int i, y] ∧ H l = some (.lst xs) ∧ xs.length < sizeLine ∧ 0 ≤ i ∧ i < 2 ^ 63 ∧ Q .non (upd H l (.lst (xs.take i.toNat ++ [y] ++ xs.drop i.toNat)))
  | .ext => rExtend
  | .clr => rClear
  | .popA => rPopAt
theorem seqIx_nat {i : Int} {n : Nat} (h0 : 0 ≤ i) (h1 : i.toNat < n) : seqIndex? i n = some i.toNat := by
  have e : (if i < 0 then i + (n : Int) else i) = i := if_neg (by omega)
  have : (decide (0 ≤ i) && decide (i < (n : Int))) = true := by
    rw [decide_eq_true h0, decide_eq_true (by omega)]; rfl
  unfold seqIndex?
  simp only [e]
  exact if_pos this
theorem mc_ok {α : Nat → Addr} {s : Sto} {H : Hp} {Q : VK} {E : XK} {m : Mid} {u : V} {us : List V} {x : MP.D} {xs : List MP.D} (rs : Rs c α s H) (ru : Rep c α s H u x) (rus : RepL c α s H us xs) (g : Gd c α s H (PV c Q) E (mcD m x xs s)) : rMc m u us H Q := by
  unfold mcD at g
  split at g
  · rename_i j
    split at g
    · rename_i ys q
      obtain ⟨vs, e1, rl⟩ := rs.cell j _ q
      have hj : s.m j ≠ none := by rw [q]; simp
      have hu : u = .ref (α j) := by cases ru with | cell h1 h2 => exact h2 hj
      have wr : ∀ (ws : List V) (zs : List MP.D) (d : MP.D) (y : V), RepL c α s H ws zs → Rep c α s H y d → Gd c α s H (PV c Q) E (.ok d (s.set j (.lst zs))) → Q y (upd H (α j) (.lst ws)) := fun ws zs d y r ry g =>
        have l : Le α s H α (s.set j (.lst zs)) (upd H (α j) (.lst ws)) := Le.write rs hj
        g α _ l (rs.write hj ⟨ws, upd_same, r.mono l⟩) y (ry.mono l)
      split at g
      · rename_i i d
        obtain ⟨h, g⟩ := g.ite
        obtain ⟨v1, v2, rfl, r1, r2⟩ := rus.two
        rw [r1.intD]
        exact ⟨α j, vs, i, v2, hu, rfl, e1, by rw [rl.length]; exact h.2.2, h.1, by omega, wr _ _ _ _ (((rl.take _).app (.cons r2 .nil)).app (rl.drop _)) .non g⟩
      · rename_i y
        obtain ⟨v1, rfl, r1⟩ := rus.one
        split at g
        · rename_i zs e
          obtain ⟨h, g⟩ := g.ite
          obtain ⟨b, ws, rfl, hb, rb⟩ := r1.lstR rs e
          exact ⟨α j, b, vs, ws, hu, rfl, e1, hb, by rw [rl.length, rb.length]; exact h, wr _ _ _ _ (rl.app rb) .non g⟩
        · exact g.elim
      · cases rus
        exact ⟨α j, vs, hu, rfl, e1, wr _ _ _ _ .nil .non g⟩
      · rename_i i
        obtain ⟨v1, rfl, r1⟩ := rus.one
        obtain ⟨h, g⟩ := g.ite
        split at g
        · rename_i d hd
          obtain ⟨y, hy, ry⟩ := rl.get hd
          have hk : i.toNat < vs.length := (List.getElem?_eq_some_iff.mp hy).1
          rw [r1.intD]
          exact ⟨α j, vs, i, i.toNat, y, hu, rfl, e1, by omega, by omega, seqIx_nat h.1 hk, hy, wr _ _ _ _ (rl.eraseIdx _) ry g⟩
        · exact g.elim
      · exact g.elim
    · exact g.elim
  · exact g.elim
theorem snd_mc {m : Mid} {o : E} {es : Es} {ob : Expr} {args : List Expr} {ap pos : Pos} (w : Wd X c F G k) (ho : plainObj ob = true) (hl : (ap.endLine == pos.line) = true) (hn : args.length < 30) (hs : args.all notStar = true) (hm : mArgs m args = true) (h0 : args = [] → es = .nil) (ha : PE X ob (tE c W (evE F o))) (hA : PA X args (tL c W (evEs F es))) :
    PE X (.Call (.Attribute ob (Str.ofString (mName m)) ap) args [] pos) (tE c W (evE F (.mc m o es))) := by
  have tyl : ∀ {α1 : Nat → Addr} {s1 : Sto} {H1 : Hp} {u : V} {x : MP.D}, Rs c α1 s1 H1 → Rep c α1 s1 H1 u x → isLstC x s1 = true → tyV X.K "list" u H1 := fun {α1 s1 H1 u x} rs1 ru hx => by
    unfold isLstC at hx
    split at hx
    · rename_i j
      split at hx
      · rename_i xs q
        obtain ⟨vs, e1, rl⟩ := rs1.cell j _ q
        cases ru with | cell h1 h2 => rw [h2 (by rw [q]; simp)]; exact .inl ⟨rfl, vs, .inl (.inl e1)⟩
      · cases hx
    · cases hx
  have some1 : ∀ (e : Expr) (rest : List Expr) (r : V → List V → Hp → VK → Prop), args = e :: rest → (∀ v xs H Q, rMc m v xs H Q → r v xs H Q) → ∀ σ H Q, tE c W (evE F (.mc m o es)) σ H Q → tBM X.K "list" r (tE c W (evE F o)) (tL c W (evEs F es)) σ H Q := fun e rest r _ hr σ H Q ⟨α, s, δ, rs, re, g⟩ => by
    dsimp only [evE] at g
    refine tE.first rs re g fun α1 s1 H1 u x l1 rs1 re1 ru g1 => ?_
    have hx : isLstC x s1 = true := by
      cases q : isLstC x s1 with
      | true => rfl
      | false => rw [q, if_neg Bool.false_ne_true] at g1; exact g1.elim
    rw [hx, if_pos rfl] at g1
    exact ⟨tyl rs1 ru hx, tL.first rs1 re1 g1 fun α2 s2 H2 us xs l2 rs2 re2 rus g2 => hr _ _ _ _ (mc_ok rs2 (ru.mono l2) rus g2)⟩
  cases args with
  | nil =>
    cases m with
    | clr =>
      refine (pe_bm0 PySem.F.plainAttrs_list PySem.F.slot_list_clear PySem.F.type_list_clear mt_clear ha (base_plain ho) hl).imp fun σ H Q ⟨α, s, δ, rs, re, g⟩ => ?_
      dsimp only [evE] at g
      refine tE.first rs re g fun α1 s1 H1 u x l1 rs1 re1 ru g1 => ?_
      have hx : isLstC x s1 = true := by
        cases q : isLstC x s1 with
        | true => rfl
        | false => rw [q, if_neg Bool.false_ne_true] at g1; exact g1.elim
      rw [hx, if_pos rfl] at g1
      refine ⟨tyl rs1 ru hx, ?_⟩
      rw [h0 rfl] at g1
      have g1 : Gd c α1 s1 H1 (PV c Q) (WE W σ) (mcD .clr x [] s1) := g1
      exact mc_ok rs1 ru .nil g1
    | _ => cases hm
  | cons e rest =>
    simp only [List.all_cons, Bool.and_eq_true] at hs
    have hfew : ((backTo pos (starEach (e :: rest) X.env)).all (fun x => !x.1) && (backToKw pos (keywordEach [] X.env)).all (fun x => x.1.isSome)
      && decide ((e :: rest).length + ([] : List Keyword).length + (if ([] : List Keyword).isEmpty then 0 else 1) < 30)) = true := by
      rw [star_all (es := e :: rest) (by simp [hs])]
      show (true && true && decide ((e :: rest).length + 0 + 0 < 30)) = true
      rw [decide_eq_true (show (e :: rest).length + 0 + 0 < 30 from hn)]; rfl
    cases m with
    | ins => exact (pe_bm PySem.F.plainAttrs_list PySem.F.slot_list_insert PySem.F.type_list_insert mt_insert ha hA (base_plain ho) hfew hl (star_plain hs.1) (star_any hs.2)).imp (some1 e rest _ rfl fun _ _ _ _ q => q)
    | ext => exact (pe_bm PySem.F.plainAttrs_list PySem.F.slot_list_extend PySem.F.type_list_extend mt_extend ha hA (base_plain ho) hfew hl (star_plain hs.1) (star_any hs.2)).imp (some1 e rest _ rfl fun _ _ _ _ q => q)
    | popA => exact (pe_bm PySem.F.plainAttrs_list PySem.F.slot_list_pop PySem.F.type_list_pop mt_popAt ha hA (base_plain ho) hfew hl (star_plain hs.1) (star_any hs.2)).imp (some1 e rest _ rfl fun _ _ _ _ q => q)
    | clr => cases hm
theorem snd_join {a b : E} {ob l : Expr} {ap pos : Pos} (w : Wd X c F G k) (ho : plainObj ob = true) (hl : (ap.endLine == pos.line) = true) (hs : notStar l = true) (ha : PE X ob (tE c W (evE F a))) (hb : PE X l (tE c W (evE F b))) :
    PE X (.Call (.Attribute ob "join" ap) [l] [] pos) (tE c W (evE F (.join a b))) :=
  (pe_join ha hb (star_plain hs) (base_plain ho) hl).imp fun σ H Q ⟨α, s, δ, rs, re, g⟩ => by
    dsimp only [evE] at g
    refine tE.first rs re g fun α1 s1 H1 v x l1 rs1 re1 rv g1 => ?_
    cases x with
    | str z =>
      refine ⟨⟨z, rv.strD⟩, tE.first rs1 re1 g1 fun α2 s2 H2 u y l2 rs2 re2 ru g2 => ?_⟩
      unfold joinD at g2
      split at g2
      · rename_i xs hx
        split at g2
        · rename_i ys hy
          obtain ⟨hz, g2⟩ := g2.ite
          obtain ⟨p, vs, rfl, hq, rl⟩ := ru.seqL rs2 hx
          rw [strsD_vals hy rl, w.eK] at hq
          exact ⟨z, p, ys, (rv.mono l2).strD, rfl, .inl hq, hz, by rw [TL.join_eq]; exact g2.here rs2 (.str _)⟩
        · exact g2.elim
      · exact g2.elim
    | _ => exact (show False from g1).elim
theorem snd_pop {o : E} {ob : Expr} {ap pos : Pos} (w : Wd X c F G k) (ho : plainObj ob = true) (hl : (ap.endLine == pos.line) = true) (ha : PE X ob (tE c W (evE F o))) :
    PE X (.Call (.Attribute ob "pop" ap) [] [] pos) (tE c W (evE F (.pop o))) :=
  (pe_bm0 PySem.F.plainAttrs_list PySem.F.slot_list_pop PySem.F.type_list_pop mt_pop ha (base_plain ho) hl).imp fun σ H Q ⟨α, s, δ, rs, re, g⟩ => by
    dsimp only [evE] at g
    refine tE.first rs re g fun α1 s1 H1 v x l1 rs1 re1 rv g1 => ?_
    unfold popD at g1
    split at g1
    · rename_i i
      split at g1
      · rename_i xs q
        split at g1
        · rename_i d hd
          have hi : s1.m i ≠ none := by rw [q]; simp
          obtain ⟨vs, e, rl⟩ := rs1.cell i _ q
          have hv : v = .ref (α1 i) := by cases rv with | cell h1 h2 => exact h2 hi
          subst hv
          rw [List.getLast?_eq_getElem?] at hd
          obtain ⟨y, hy, ry⟩ := rl.get hd
          refine ⟨.inl ⟨rfl, vs, .inl (.inl e)⟩, α1 i, vs, y, rfl, rfl, e, by rw [rl.length]; exact hy, ?_⟩
          have l : Le α1 s1 H1 α1 (s1.set i (.lst xs.dropLast)) (upd H1 (α1 i) (.lst vs.dropLast)) := Le.write rs1 hi
          exact g1 _ _ l (rs1.write hi ⟨vs.dropLast, upd_same, rl.dropLast.mono l⟩) y (ry.mono l)
        · exact g1.elim
      · exact g1.elim
    · exact g1.elim
theorem snd_fld {o : E} {f : Str} {ob : Expr} {pos : Pos} (w : Wd X c F G k) (ho : plainObj ob = true) (hf : f ∈ G.flds) (ha : PE X ob (tE c W (evE F o))) : PE X (.Attribute ob f pos) (tE c W (evE F (.fld o f))) :=
  (pe_fld ha (base_plain ho)).imp fun σ H Q ⟨α, s, δ, rs, re, g⟩ => by
    dsimp only [evE] at g
    refine tE.first rs re g fun α1 s1 H1 v x l1 rs1 re1 rv g1 => ?_
    unfold fldD at g1
    split at g1
    · rename_i i
      split at g1
      · rename_i C fs q
        obtain ⟨d, e, g1⟩ := g1.okO
        obtain ⟨Ca, dx, vfs, e1, e2, e3⟩ := rs1.cell i _ q
        obtain ⟨y, hy, ry⟩ := (e3.lookup).2 d e
        have hv : v = .ref (α1 i) := by cases rv with | cell h1 h2 => exact h2 (by rw [q]; simp)
        obtain ⟨k1, k2, k3⟩ := w.inst C Ca e1
        exact ⟨α1 i, Ca, dx, vfs, y, hv, e2, k1, k2 f hf, hy, g1.here rs1 ry⟩
      · exact g1.elim
    · exact g1.elim
/-! ### and, or -/
theorem snd_and {a b : E} {es : Es} {x y : Expr} {rest : List Expr} {pos : Pos} (ha : PE X x (tE c W (evE F a))) (ha' : PT X x (tT c W (evE F a)))
    (hb : PE X (.BoolOp .And (y :: rest) pos) (tE c W (evAnd F (.cons b es)))) (hb' : PW X (.BoolOp .And (y :: rest) pos) (tT c W (evAnd F (.cons b es)))) :
    PE X (.BoolOp .And (x :: y :: rest) pos) (tE c W (evAnd F (.cons a (.cons b es)))) ∧ PW X (.BoolOp .And (x :: y :: rest) pos) (tT c W (evAnd F (.cons a (.cons b es)))) := by
  refine ⟨(pe_and ha hb).imp fun σ H Q ⟨α, s, δ, rs, re, g⟩ => ?_, (pw_and ha' hb').imp fun σ H Q ⟨α, s, δ, rs, re, g⟩ => ?_⟩
  · unfold evAnd at g
    refine tE.first rs re g fun α1 s1 H1 v x l1 rs1 re1 rv g1 => ?_
    cases x with
    | bl t =>
      refine ⟨t, rv.blD, ?_⟩
      cases t with
      | true => rw [if_pos rfl]; exact ⟨α1, s1, δ, rs1, re1, g1⟩
      | false => rw [if_neg Bool.false_ne_true]; exact Gd.here rs1 g1 (.bl _)
    | _ => exact (show False from g1).elim
  · unfold evAnd at g
    refine tT.first rs re g (fun x s1 α1 H1 g1 => ?_) fun α1 s1 H1 b l1 rs1 re1 g1 => ?_
    · cases x with
      | bl b => exact ⟨b, rfl⟩
      | _ => exact (show False from g1).elim
    · cases b with
      | true => rw [if_pos rfl]; exact ⟨α1, s1, δ, rs1, re1, g1⟩
      | false =>
        rw [if_neg Bool.false_ne_true]
        obtain ⟨b', e, q⟩ := Gd.ok_here rs1 g1
        cases e; exact q
theorem snd_or {a b : E} {es : Es} {x y : Expr} {rest : List Expr} {pos : Pos} (ha : PE X x (tE c W (evE F a))) (ha' : PT X x (tT c W (evE F a)))
    (hb : PE X (.BoolOp .Or (y :: rest) pos) (tE c W (evOr F (.cons b es)))) (hb' : PW X (.BoolOp .Or (y :: rest) pos) (tT c W (evOr F (.cons b es)))) :
    PE X (.BoolOp .Or (x :: y :: rest) pos) (tE c W (evOr F (.cons a (.cons b es)))) ∧ PW X (.BoolOp .Or (x :: y :: rest) pos) (tT c W (evOr F (.cons a (.cons b es)))) := by
  refine ⟨(pe_or ha hb).imp fun σ H Q ⟨α, s, δ, rs, re, g⟩ => ?_, (pw_or ha' hb').imp fun σ H Q ⟨α, s, δ, rs, re, g⟩ => ?_⟩
  · unfold evOr at g
    refine tE.first rs re g fun α1 s1 H1 v x l1 rs1 re1 rv g1 => ?_
    cases x with
    | bl t =>
      refine ⟨t, rv.blD, ?_⟩
      cases t with
      | false => rw [if_neg Bool.false_ne_true]; exact ⟨α1, s1, δ, rs1, re1, g1⟩
      | true => rw [if_pos rfl]; exact Gd.here rs1 g1 (.bl _)
    | _ => exact (show False from g1).elim
  · unfold evOr at g
    refine tT.first rs re g (fun x s1 α1 H1 g1 => ?_) fun α1 s1 H1 b l1 rs1 re1 g1 => ?_
    · cases x with
      | bl b => exact ⟨b, rfl⟩
      | _ => exact (show False from g1).elim
    · cases b with
      | false => rw [if_neg Bool.false_ne_true]; exact ⟨α1, s1, δ, rs1, re1, g1⟩
      | true =>
        rw [if_pos rfl]
        obtain ⟨b', e, q⟩ := Gd.ok_here rs1 g1
        cases e; exact q
end

/-! ### what is walked -/
def WkOk (J : It) (vs : List V) (H : Hp) : Prop := (∀ (i : Nat) (v : V), vs[i]? = some v → J.go i H ∧ ∀ x H', J.yld i H x H' → H' = H ∧ x = v) ∧ J.stop vs.length H
def tW (c : Cn) (W : WX) (ev : Env → Sto → Res (List D)) : TI := fun σ H R => ∃ α s δ, Rs c α s H ∧ RepE c α s H σ δ ∧
  Gd c α s H (fun α' s' H' xs => ∀ J vs, (∀ α'' s'' H'', Le α' s' H' α'' s'' H'' → WkOk J vs H'') → RepL c α' s' H' vs xs → R J H') (WE W σ) (ev δ s)
theorem _root_.L2.PI.imp {X : Cx} {tg iter : Expr} {t t' : TI} (h : PI X tg iter t) (i : ∀ σ H R, t' σ H R → t σ H R) : PI X tg iter t' := ⟨fun pins s σ H R I q => h.run pins s σ H R I (i σ H R q)⟩
section
variable {X : Cx} {c : Cn} {F : Fn} {G : Gs} {k : Nat} {W : WX}
/-- a list or a tuple, whichever comes -/
def iSeq (K : PySem.W.Frag) (tl : TE) : TI := fun σ H R => tl σ H fun x H1 => ∃ a, x = .ref a ∧ (((∃ xs, SqL K H1 a xs) ∧ R (Itl K a) H1) ∨ ((∃ xs, SqT K H1 a xs) ∧ R (Itt K a) H1) ∨ ∃ o kvs, H1 a = some (.frz o (.dK kvs)) ∧ R (Itk a o kvs) H1)
theorem pi_seq {tg l : Expr} {tl : TE} (hl : PE X l tl) : PI X tg l (iSeq X.K tl) := by
  refine ⟨fun pins s σ H R I h => ?_⟩
  refine thn (hl.run pins s σ H _ I h) fun v s1 ⟨x, H1, I1, r1, q1⟩ => ?_
  obtain ⟨a, e, q⟩ := q1
  subst e
  cases r1
  rcases q with ⟨⟨xs, hq⟩, q⟩ | ⟨⟨xs, hq⟩, q⟩ | ⟨o, kvs, hd, q⟩
  · obtain ⟨its, rv, p, hz⟩ := I1.list hq
    refine wpAny_pyIter_list p.isList ?_
    refine ⟨s1.heap.objs.size, [s1.heap.objs.size], _, _, H1, rfl, I1.kept (t' := s1.toks) fun b o e => Heap.get?_push_of_some _ e, turn_list a _, ⟨_, Heap.get?_push_size _ rfl, rfl, rfl⟩, fun b hb => ?_, q⟩
    have e : b = s1.heap.objs.size := by simpa using hb
    subst e
    exact I1.fpOk (Nat.le_refl _) (I1.hok.fresh (Nat.le_refl _))
  · obtain ⟨its, rv, p, hz⟩ := I1.tuple hq
    refine wpAny_pyIter_tuple (show s1.heap.IsTuple a its.toArray from p) ?_
    refine ⟨s1.heap.objs.size, [s1.heap.objs.size], _, _, H1, rfl, I1.kept (t' := s1.toks) fun b o e => Heap.get?_push_of_some _ e, turn_tuple a _, ⟨_, Heap.get?_push_size _ rfl, rfl, rfl⟩, fun b hb => ?_, q⟩
    have e : b = s1.heap.objs.size := by simpa using hb
    subst e
    exact I1.fpOk (Nat.le_refl _) (I1.hok.fresh (Nat.le_refl _))
  · obtain ⟨hs, hgd, hx, es, ep, vs, hdt, hsz, kv, hm⟩ := I1.frzK hd
    refine iter_keys hs hgd hx hdt (pi_one (tk := s1.toks) I1 _ (turn_keys _ hdt) ⟨_, Heap.get?_push_size _ rfl, rfl, ?_⟩ q)
    rw [hsz] <;> rfl
theorem repL_keys {α : Nat → Addr} {s : Sto} {H : Hp} : ∀ ks : List Key, RepL c α s H (ks.map kV) (ks.map kD)
  | [] => .nil
  | .inl i :: ks => .cons (.int i) (repL_keys ks)
  | .inr x :: ks => .cons (.str x) (repL_keys ks)
theorem wk_keys {H : Hp} {a : Addr} {o : Obj} {kvs : List (Key × V)} (h : H a = some (.frz o (.dK kvs))) : WkOk (Itk a o kvs) ((kvs.map (·.1)).map kV) H := by
  refine ⟨fun i v e => ?_, h, by simp⟩
  rw [List.map_map, List.getElem?_map, Option.map_eq_some_iff] at e
  obtain ⟨p, e, rfl⟩ := e
  obtain ⟨h1, _⟩ := List.getElem?_eq_some_iff.mp e
  refine ⟨⟨h, h1⟩, fun x H' y => ⟨y.1, ?_⟩⟩
  obtain ⟨k, v, e2, e3⟩ := y.2
  rw [e] at e2
  cases e2
  exact e3
theorem sqT_le {K : PySem.W.Frag} {α α' : Nat → Addr} {s s' : Sto} {H H' : Hp} {a : Addr} {vs : List V} (l : Le α s H α' s' H') (h : SqT K H a vs) : SqT K H' a vs := by
  rcases h with h | h
  · exact .inl (rd_ext l (fun _ z => nomatch z) (fun z => z) h)
  · exact .inr h
theorem wk_list {K : PySem.W.Frag} {H : Hp} {a : Addr} {vs : List V} (inj : ∀ ys, SqL K H a ys → ys = vs) (h : SqL K H a vs) : WkOk (Itl K a) vs H :=
  ⟨fun i v e => ⟨⟨vs, v, h, e⟩, fun x H' y => ⟨y.1, by have z := y.2 vs h; rw [e] at z; exact (Option.some.inj z).symm⟩⟩, vs, h, Nat.le_refl _⟩
theorem wk_tup {K : PySem.W.Frag} {H : Hp} {a : Addr} {vs : List V} (h : SqT K H a vs) : WkOk (Itt K a) vs H :=
  ⟨fun i v e => ⟨⟨vs, v, h, e⟩, fun x H' y => ⟨y.1, by have z := y.2 vs h; rw [e] at z; exact (Option.some.inj z).symm⟩⟩, vs, h, Nat.le_refl _⟩
theorem wk_rng {lo : Int} {n : Nat} {H : Hp} : WkOk (Itr lo n) ((List.range n).map fun (i : Nat) => V.int (lo + i)) H := by
  refine ⟨fun i v e => ?_, by simp [Itr]⟩
  rw [List.getElem?_map, Option.map_eq_some_iff] at e
  obtain ⟨j, e, rfl⟩ := e
  obtain ⟨h1, h2⟩ := List.getElem?_eq_some_iff.mp e
  simp at h1 h2
  subst h2
  exact ⟨h1, fun x H' y => y⟩
theorem snd_wseq {a : E} {e tg : Expr} (w : Wd X c F G k) (ha : PE X e (tE c W (evE F a))) : PI X tg e (tW c W (evW F (.seq a))) :=
  (pi_seq ha).imp fun σ H R ⟨α, s, δ, rs, re, g⟩ => by
    dsimp only [evW] at g
    refine tE.first rs re g fun α1 s1 H1 v x l1 rs1 re1 rv g1 => ?_
    unfold seqW at g1
    cases x with
    | tup ds =>
      obtain ⟨a, vs, rfl, hs, rl⟩ := rv.tupD
      rw [w.eK] at hs
      exact ⟨a, rfl, .inr (.inl ⟨⟨vs, hs⟩, Gd.ok_here rs1 g1 _ vs (fun α'' s'' H'' l => wk_tup (sqT_le l hs)) rl⟩)⟩
    | dks ks =>
      cases rv with
      | dks h1 h2 =>
        subst h2
        exact ⟨_, rfl, .inr (.inr ⟨_, _, h1, Gd.ok_here rs1 g1 _ _ (fun α'' s'' H'' l => wk_keys (l.ext _ _ h1 (fun _ z => nomatch z) fun mu => mu.elim)) (repL_keys _)⟩)⟩
    | lst ds =>
      cases rv with
      | lst h1 h2 h4 h3 =>
        refine ⟨_, rfl, .inl ⟨⟨_, .of h1⟩, Gd.ok_here rs1 g1 _ _ (fun α'' s'' H'' l => ?_) h3⟩⟩
        have q := l.ext _ _ h1 (fun _ z => nomatch z) fun _ => h2
        exact ⟨fun i v e => ⟨⟨_, v, .of q, e⟩, fun x H' y => ⟨y.1, by have z := y.2 _ (.of q); rw [e] at z; exact (Option.some.inj z).symm⟩⟩, _, .of q, Nat.le_refl _⟩
    | scr ns =>
      cases rv with
      | scr h1 =>
        have hq : ∀ {α'' s'' H''}, Le α1 s1 H1 α'' s'' H'' → SqL X.K H'' _ (ns.map V.int) := fun {α'' s'' H''} l => by
          rcases h1 with ⟨o, h1⟩ | h1
          · exact .inl (.inr ⟨o, l.ext _ _ h1 (fun _ z => nomatch z) fun mu => mu.elim⟩)
          · rw [w.eK] at h1; exact .inr h1
        refine ⟨_, rfl, .inl ⟨⟨_, hq rs1.le⟩, Gd.ok_here rs1 g1 _ _ (fun α'' s'' H'' l => ?_) RepL.of_ints⟩⟩
        have q := hq l
        exact ⟨fun i v e => ⟨⟨_, v, q, e⟩, fun x H' y => ⟨y.1, by have z := y.2 _ q; rw [e] at z; exact (Option.some.inj z).symm⟩⟩, _, q, Nat.le_refl _⟩
      | scrL h1 h2 h4 =>
        refine ⟨_, rfl, .inl ⟨⟨_, .of h1⟩, Gd.ok_here rs1 g1 _ _ (fun α'' s'' H'' l => ?_) RepL.of_ints⟩⟩
        have q := l.ext _ _ h1 (fun _ z => nomatch z) fun _ => h2
        exact ⟨fun i v e => ⟨⟨_, v, .of q, e⟩, fun x H' y => ⟨y.1, by have z := y.2 _ (.of q); rw [e] at z; exact (Option.some.inj z).symm⟩⟩, _, .of q, Nat.le_refl _⟩
    | _ => exact (show False from g1).elim
theorem repL_rng {α : Nat → Addr} {s : Sto} {H : Hp} (f : Nat → Int) : ∀ l : List Nat, RepL c α s H (l.map fun i => V.int (f i)) (l.map fun i => D.int (f i))
  | [] => .nil
  | _ :: l => .cons (.int _) (repL_rng f l)
theorem snd_wrng {a : E} {x tg : Expr} {p pos : Pos} (w : Wd X c F G k) (hg : glB X.env.scope "range" = true) (hf : ("range" : Str) ∈ G.blt) (hs : notStar x = true) (ha : PE X x (tE c W (evE F a))) : PI X tg (.Call (.Name "range" p) [x] [] pos) (tW c W (evW F (.rng a))) :=
  (pi_range1 (glB_ok hg).1 (w.blt _ hf) (pa_cons ha pa_nil (star_plain hs)) (star_plain hs)).imp fun σ H R ⟨α, s, δ, rs, re, g⟩ => by
    dsimp only [evW] at g
    refine tE.first rs re g fun α1 s1 H1 v x l1 rs1 re1 rv g1 => ?_
    cases x with
    | int n =>
      obtain ⟨h, g1⟩ := Gd.ite g1
      refine ⟨n, by rw [rv.intD], h.1, h.2, Gd.ok_here rs1 g1 _ _ (fun α'' s'' H'' l => wk_rng) ?_⟩
      unfold rngL
      have := repL_rng (c := c) (α := α1) (s := s1) (H := H1) (fun i => 0 + (i : Int)) (List.range n.toNat)
      simpa using this
    | _ => exact (show False from g1).elim
theorem snd_wrng2 {a b : E} {x z tg : Expr} {p pos : Pos} (w : Wd X c F G k) (hg : glB X.env.scope "range" = true) (hf : ("range" : Str) ∈ G.blt) (hs : notStar x = true) (hz : notStar z = true) (ha : PE X x (tE c W (evE F a))) (hb : PE X z (tE c W (evE F b))) :
    PI X tg (.Call (.Name "range" p) [x, z] [] pos) (tW c W (evW F (.rng2 a b))) :=
  (pi_range2 (glB_ok hg).1 (w.blt _ hf) (pa_cons ha (pa_cons hb pa_nil (star_plain hz)) (star_plain hs)) (by rw [star_plain hs, star_plain hz]; rfl) (star_plain hz)).imp fun σ H R ⟨α, s, δ, rs, re, g⟩ => by
    dsimp only [evW] at g
    refine tE.first rs re g fun α1 s1 H1 v x l1 rs1 re1 rv g1 => tE.first rs1 re1 g1 fun α2 s2 H2 u y l2 rs2 re2 ru g2 => ?_
    split at g2
    · rename_i m n
      obtain ⟨h, g2⟩ := Gd.ite g2
      refine ⟨m, n, by rw [rv.intD, ru.intD], h, Gd.ok_here rs2 g2 _ _ (fun α'' s'' H'' l => wk_rng) ?_⟩
      unfold rng2L
      exact repL_rng (fun i => m + (i : Int)) (List.range (n - m).toNat)
    · exact g2.elim
end
end MP
/-! MP8: comprehensions; every expression's meaning is sound. -/
namespace MP
open PySem PySem.Spec PyProof.Rows L2 LamX NdefX

section
variable {c : Cn} {α : Nat → Addr} {s : Sto} {H : Hp} {L : Addr} {x : Cell}
theorem αn_live {j : Nat} (lt : ∀ i, s.m i ≠ none → i < s.nx) (h : (s.new x).m j ≠ none) : (j = s.nx ∧ αn α s L j = L) ∨ (s.m j ≠ none ∧ j < s.nx ∧ αn α s L j = α j) := by
  rw [Sto.new_m] at h
  by_cases e : j = s.nx
  · subst e; exact .inl ⟨rfl, αn_new⟩
  · rw [if_neg e] at h
    exact .inr ⟨h, lt j h, αn_old (lt j h)⟩
mutual
theorem Rep.settle (lt : ∀ i, s.m i ≠ none → i < s.nx) : ∀ {d : MP.D} {v : V}, Rep (c.add L) α s H v d → Rep c (αn α s L) (s.new x) H v d
  | .non, _, h => by cases h; exact .non
  | .bl _, _, h => by cases h; exact .bl _
  | .int _, _, h => by cases h; exact .int _
  | .str _, _, h => by cases h; exact .str _
  | .tup ds, _, h => by cases h with | tup h1 h2 => exact .tup h1 (RepL.settle lt h2)
  | .lst ds, _, h => by
    cases h with
    | lst h1 h2 h4 h3 =>
      refine .lst h1 (fun i hi => ?_) (fun z => h4 (List.mem_cons_of_mem _ z)) (RepL.settle lt h3)
      rcases αn_live (L := L) (α := α) lt hi with ⟨_, e⟩ | ⟨e1, _, e⟩
      · rw [e]; exact fun z => h4 (by rw [← z]; exact List.mem_cons_self)
      · rw [e]; exact h2 i e1
  | .scr ns, _, h => by
    cases h with
    | scr h1 => exact .scr h1
    | scrL h1 h2 h4 =>
      refine .scrL h1 (fun i hi => ?_) (fun z => h4 (List.mem_cons_of_mem _ z))
      rcases αn_live (L := L) (α := α) lt hi with ⟨_, e⟩ | ⟨e1, _, e⟩
      · rw [e]; exact fun z => h4 (by rw [← z]; exact List.mem_cons_self)
      · rw [e]; exact h2 i e1
  | .cell i, _, h => by
    cases h with
    | cell h1 h2 =>
      refine .cell (Nat.lt_succ_of_lt h1) fun hi => ?_
      rw [Sto.new_m, if_neg (Nat.ne_of_lt h1)] at hi
      rw [αn_old h1]; exact h2 hi
  | .fn x, _, h => by
    cases h with
    | fn h1 => exact .fn h1
    | lam h1 h2 h3 => exact .lam h1 h2 h3
  | .ty n, _, h => by cases h; exact .ty _
  | .dks ks, _, h => by cases h with | dks h1 h2 => exact .dks h1 h2
  | .ex C, _, h => by
    cases h with
    | ex h0 h1 h2 h4 =>
      refine .ex h0 h1 (fun i hi => ?_) (fun z => h4 (List.mem_cons_of_mem _ z))
      rcases αn_live (L := L) (α := α) lt hi with ⟨_, e⟩ | ⟨e1, _, e⟩
      · rw [e]; exact fun z => h4 (by rw [← z]; exact List.mem_cons_self)
      · rw [e]; exact h2 i e1
theorem RepL.settle (lt : ∀ i, s.m i ≠ none → i < s.nx) : ∀ {ds : List MP.D} {vs : List V}, RepL (c.add L) α s H vs ds → RepL c (αn α s L) (s.new x) H vs ds
  | [], _, h => by cases h; exact .nil
  | d :: ds, _, h => by
    cases h with
    | cons h1 h2 => exact .cons (Rep.settle lt h1) (RepL.settle lt h2)
end
theorem Rs.settle {vs : List V} {ds : List MP.D} (r : Rs (c.add L) α s H) (hL : H L = some (.lst vs)) (hl : L ∉ c.φ) (rl : RepL (c.add L) α s H vs ds) : Rs c (αn α s L) (s.new (.lst ds)) H where
  inj := fun a b h1 h2 e => by
    rcases αn_live (L := L) (α := α) r.lt h1 with ⟨e1, q1⟩ | ⟨e1, e2, q1⟩
    · rcases αn_live (L := L) (α := α) r.lt h2 with ⟨f1, q2⟩ | ⟨f1, f2, q2⟩
      · rw [e1, f1]
      · rw [q1, q2] at e
        exact absurd (by rw [← e]; exact List.mem_cons_self) (r.fr b f1)
    · rcases αn_live (L := L) (α := α) r.lt h2 with ⟨f1, q2⟩ | ⟨f1, f2, q2⟩
      · rw [q1, q2] at e
        exact absurd (by rw [e]; exact List.mem_cons_self) (r.fr a e1)
      · rw [q1, q2] at e
        exact r.inj a b e1 f1 e
  lt := fun a h => by
    rcases αn_live (L := L) (α := α) r.lt h with ⟨e1, _⟩ | ⟨_, e2, _⟩
    · rw [e1]; exact Nat.lt_succ_self _
    · exact Nat.lt_succ_of_lt e2
  cell := fun j y h => by
    by_cases e : j = s.nx
    · subst e
      rw [Sto.new_m, if_pos rfl] at h
      cases h
      rw [αn_new]
      exact ⟨vs, hL, rl.settle r.lt⟩
    · rw [Sto.new_m, if_neg e] at h
      rw [αn_old (r.lt j (by rw [h]; simp))]
      have q := r.cell j y h
      cases y with
      | lst ds => obtain ⟨vs, q, k⟩ := q; exact ⟨vs, q, k.settle r.lt⟩
      | ins C fs => obtain ⟨Ca, dx, vfs, e, q, k⟩ := q; exact ⟨Ca, dx, vfs, e, q, Paired.mapP k fun _ _ z => ⟨z.1, z.2.settle r.lt⟩⟩
      | dct kvs => obtain ⟨vs, q, k⟩ := q; exact ⟨vs, q, Paired.mapP k fun _ _ z => ⟨z.1, z.2.settle r.lt⟩⟩
  fr := fun a h => by
    rcases αn_live (L := L) (α := α) r.lt h with ⟨e1, q1⟩ | ⟨e1, e2, q1⟩
    · rw [q1]; exact hl
    · rw [q1]; exact fun z => r.fr a e1 (List.mem_cons_of_mem _ z)
  tr := fun a h => r.tr a (List.mem_cons_of_mem _ h)
  tb := r.tb
theorem Le.settle {α0 : Nat → Addr} {s0 : Sto} {H0 : Hp} (l : Le α0 s0 H0 α s H) (lt : ∀ i, s.m i ≠ none → i < s.nx) (hL : H0 L = none) : Le α0 s0 H0 (αn α s L) (s.new x) H where
  nx := Nat.le_succ_of_le l.nx
  old := fun i h1 h2 => by
    rcases αn_live (L := L) (α := α) lt h2 with ⟨e1, q1⟩ | ⟨e1, e2, q1⟩
    · exact absurd h1 (by rw [e1]; exact Nat.not_lt.mpr l.nx)
    · rw [q1]; exact l.old i h1 e1
  new := fun i h1 h2 => by
    rcases αn_live (L := L) (α := α) lt h2 with ⟨e1, q1⟩ | ⟨e1, e2, q1⟩
    · rw [q1]; exact hL
    · rw [q1]; exact l.new i h1 e1
  trk := l.trk
  ext := l.ext
end

/-- whatever lists are being made -/
def Cn.at (c : Cn) (φ : List Addr) : Cn := { c with φ := φ }
theorem PE.ex {ι : Type} {X : Cx} {e : Expr} {t : ι → TE} (h : ∀ i, PE X e (t i)) : PE X e (fun σ H Q => ∃ i, t i σ H Q) := ⟨fun pins s σ H Q I ⟨i, q⟩ => (h i).run pins s σ H Q I q⟩
theorem PT.ex {ι : Type} {X : Cx} {e : Expr} {t : ι → TT} (h : ∀ i, PT X e (t i)) : PT X e (fun σ H Q => ∃ i, t i σ H Q) := ⟨fun pins s σ H Q I ⟨i, q⟩ => (h i).run pins s σ H Q I q⟩
/-- nothing is wished of exceptions -/
abbrev W0 : WX := fun _ _ _ _ => False
/-- the tests of a comprehension -/
def tCnd (c : Cn) (W : WX) : Option (Env → Sto → Res D) → TT
  | none => fun _ H Q => Q true H
  | some ev => tT c W ev
section
variable {X : Cx} {c : Cn} {F : Fn} {G : Gs} {k : Nat} {W : WX}
theorem wipe1 {σ : L2.St} {i : Nat} : wipe σ [i] = σ.set i none := rfl
/-- the turns of a comprehension -/
theorem lc_turns {i : Nat} {cond : Option (Env → Sto → Res D)} {elt : Env → Sto → Res D} {σ : L2.St} {δ : Env} {α1 : Nat → Addr} {s1 : Sto} {H1 : Hp} {xs ys : List D} {vs : List V} {s2 : Sto} {J : It} {L : Addr} {Qd : Hp → Prop}
    (rs1 : Rs c α1 s1 H1) (re1 : RepE c α1 s1 H1 σ δ) (rl1 : RepL c α1 s1 H1 vs xs) (hJ : ∀ α'' s'' H'', Le α1 s1 H1 α'' s'' H'' → WkOk J vs H'') (hL : H1 L = none)
    (hr : lcRun i cond elt (δ.set i none) xs [] s1 = .ok ys s2)
    (hd : ∀ α' H' vacc, Le α1 s1 H1 α' s2 H' → Rs (c.add L) α' s2 H' → H' L = some (.lst vacc) → RepL (c.add L) α' s2 H' vacc ys → Qd H') :
    ∃ W : Nat → Nat → Hp → Prop, (∃ m, W 0 m (upd H1 L (.lst []))) ∧ ∀ j m H, W j m H →
      (J.stop j H ∧ Qd H) ∨ (J.go j H ∧ ∃ Nx : Hp → Prop, (∀ H', Nx H' → ∃ m', m' < m ∧ W (j + 1) m' H') ∧ ∀ x H', J.yld j H x H' → gName i x (wipe σ [i]) H' fun σ2 H2 => wipe σ2 [i] = wipe σ [i] ∧
        (fun σ H Q => ∃ φ, tCnd (c.at φ) W0 cond σ H Q : TT) σ2 H2 fun b H3 =>
          if b = true then (fun σ H Q => ∃ φ, tE (c.at φ) W0 elt σ H Q : TE) σ2 H3 fun y H4 => ∃ acc, H4 L = some (.lst acc) ∧ acc.length < sizeLine ∧ Nx (upd H4 L (.lst (acc ++ [y]))) else Nx H3) := by
  -- what holds ahead of turn j
  let Inv0 : Nat → Hp → Prop := fun j H' => j ≤ vs.length ∧ ∃ α' s' acc vacc, Le α1 s1 H1 α' s' H' ∧ Rs (c.add L) α' s' H' ∧ RepE (c.add L) α' s' H' (σ.set i none) (δ.set i none) ∧ RepL (c.add L) α' s' H' vs xs ∧
    H' L = some (.lst vacc) ∧ RepL (c.add L) α' s' H' vacc acc ∧ lcRun i cond elt (δ.set i none) (xs.drop j) acc s' = .ok ys s2
  have hlen := rl1.length
  refine ⟨fun j m H' => m = vs.length - j ∧ Inv0 j H', ⟨_, rfl, Nat.zero_le _, α1, s1, [], [], rs1.le.fresh hL, rs1.lift hL, ?_, rl1.lift hL, upd_same, .nil, by rw [List.drop_zero]; exact hr⟩, ?_⟩
  · refine ⟨by simp [re1.len], fun j d e => ?_⟩
    obtain ⟨v, e1, r⟩ := re1.drop1.get j d e
    exact ⟨v, e1, r.lift hL⟩
  rintro j m H' ⟨rfl, hj, α', s', acc, vacc, l, rs, re, rl, hacc, racc, run⟩
  have hw := hJ _ _ _ l
  by_cases hlt : j < vs.length
  · have hx : j < xs.length := by rw [← hlen]; exact hlt
    obtain ⟨go, yld⟩ := hw.1 j vs[j] (List.getElem?_eq_getElem hlt)
    refine .inr ⟨go, Inv0 (j + 1), fun H2 q => ⟨vs.length - (j + 1), by omega, rfl, q⟩, fun x H2 y => ?_⟩
    obtain ⟨rfl, rfl⟩ := yld x H2 y
    have hm : L ∈ (c.add L).φ := List.mem_cons_self
    rw [List.drop_eq_getElem_cons hx] at run
    have rx : Rep (c.add L) α' s' H2 vs[j] xs[j] := by
      obtain ⟨v, e1, r⟩ := rl.get (List.getElem?_eq_getElem hx)
      rw [List.getElem?_eq_getElem hlt] at e1
      cases e1; exact r
    refine ⟨by simp only [wipe1, List.set_set], ?_⟩
    have re2 : RepE (c.add L) α' s' H2 ((σ.set i none).set i (some vs[j])) ((δ.set i none).set i (some xs[j])) := re.put rx
    -- behind the test
    have elt_ok : ∀ {α3 : Nat → Addr} {s3 : Sto} {H3 : Hp}, Le α' s' H2 α3 s3 H3 → Rs (c.add L) α3 s3 H3 →
        (match elt ((δ.set i none).set i (some xs[j])) s3 with
          | .ok y s2' => if acc.length < sizeLine then lcRun i cond elt (δ.set i none) (xs.drop (j + 1)) (acc ++ [y]) s2' else .bad
          | _ => .bad) = Res.ok ys s2 →
        ∃ φ, tE (c.at φ) W0 elt ((σ.set i none).set i (some vs[j])) H3 fun y H4 => ∃ acc, H4 L = some (.lst acc) ∧ acc.length < sizeLine ∧ Inv0 (j + 1) (upd H4 L (.lst (acc ++ [y]))) := by
      intro α3 s3 H3 l3 rs3 run3
      refine ⟨(c.add L).φ, α3, s3, _, rs3, re2.mono l3, ?_⟩
      cases he : elt ((δ.set i none).set i (some xs[j])) s3 with
      | ok y s4 =>
        rw [he] at run3
        dsimp only at run3
        split at run3
        · rename_i hz
          intro α4 H4 l4 rs4 v rv
          have hacc4 : H4 L = some (.lst vacc) := (l3.trans l4).ext L _ hacc (fun _ z => nomatch z) fun _ b hb => by
            intro z; exact rs.fr b hb (by rw [z]; exact hm)
          have l34 := l3.trans l4
          refine ⟨vacc, hacc4, by rw [racc.length]; exact hz, hlt, α4, s4, acc ++ [y], vacc ++ [v], (l.trans l34).fresh hL, rs4.grow hm hacc4, ?_, ?_, upd_same, ?_, run3⟩
          · have re4 := re.mono l34
            exact ⟨re4.len, fun b d e => by obtain ⟨u, e1, r⟩ := re4.get b d e; exact ⟨u, e1, r.grow hm hacc4⟩⟩
          · exact (rl.mono l34).grow hm hacc4
          · exact ((racc.mono l34).grow hm hacc4).app (.cons (Rep.grow hm hacc4 rv) .nil)
        · cases run3
      | exc x s4 => rw [he] at run3; cases run3
      | bad => rw [he] at run3; cases run3
    have skip_ok : ∀ {α3 : Nat → Addr} {s3 : Sto} {H3 : Hp}, Le α' s' H2 α3 s3 H3 → Rs (c.add L) α3 s3 H3 → lcRun i cond elt (δ.set i none) (xs.drop (j + 1)) acc s3 = Res.ok ys s2 → Inv0 (j + 1) H3 := by
      intro α3 s3 H3 l3 rs3 run3
      exact ⟨hlt, α3, s3, acc, vacc, l.trans l3, rs3, re.mono l3, rl.mono l3, l3.ext L _ hacc (fun _ z => nomatch z) fun _ b hb z => rs.fr b hb (by rw [z]; exact hm), racc.mono l3, run3⟩
    cases cond with
    | none =>
      refine ⟨[], ?_⟩
      unfold lcRun at run
      exact iteT (B := Inv0 (j + 1) H2) (elt_ok rs.le rs run)
    | some ev =>
      refine ⟨(c.add L).φ, α', s', _, rs, re2, ?_⟩
      unfold lcRun at run
      dsimp only at run
      cases he : ev ((δ.set i none).set i (some xs[j])) s' with
      | ok b s3 =>
        rw [he] at run
        intro α3 H3 l3 rs3
        cases b with
        | bl t =>
          refine ⟨t, rfl, ?_⟩
          cases t with
          | true =>
            rw [if_pos rfl]
            exact elt_ok l3 rs3 run
          | false =>
            rw [if_neg Bool.false_ne_true]
            exact skip_ok l3 rs3 run
        | _ => cases run
      | exc x s3 => rw [he] at run; cases run
      | bad => rw [he] at run; cases run
  · have e : j = vs.length := by omega
    subst e
    refine .inl ⟨hw.2, ?_⟩
    rw [hlen, List.drop_length] at run
    unfold lcRun at run
    cases run
    exact hd α' H' vacc l rs hacc racc
theorem snd_lc {cc : Bool} {i : Nat} {x : Str} {src : MP.W} {cond : Eo} {elt : E} {el iter : Expr} {ifs : List Expr} {scope : Scope} {p pos : Pos} (w : Wd X c F G k) (hN : X.N.Nodup) (ok : BlkOk X.N X.env.scope scope [(x, i)]) (hs : notSet iter = true)
    (hi : PI X (.Name x p) iter (tW c W (evW F src)))
    (hg : ∀ (s : Shared) (H : Hp) (C : Addr) (cl : List (Str × Addr)) (fp : List Addr), PG (X.blk s H scope (compEnvC scope cl C X.env) fp) (.Name x p) (gName i))
    (ht : ∀ (φ : List Addr) (s : Shared) (H : Hp) (C : Addr) (cl : List (Str × Addr)) (fp : List Addr), PTs (X.blk s H scope (compEnvC scope cl C X.env) fp) ifs (tCnd (c.at φ) W0 (evC F cond)))
    (he : ∀ (φ : List Addr) (s : Shared) (H : Hp) (C : Addr) (cl : List (Str × Addr)) (fp : List Addr), PE (X.blk s H scope (compEnvC scope cl C X.env) fp) el (tE (c.at φ) W0 (evE F elt))) :
    ∀ σ H Q, tE c W (evE F (.lc cc i src cond elt)) σ H Q → tLc (tW c W (evW F src)) (gName i) (fun σ H Q => ∃ φ, tCnd (c.at φ) W0 (evC F cond) σ H Q) (fun σ H Q => ∃ φ, tE (c.at φ) W0 (evE F elt) σ H Q) [i] σ H Q := by
  rintro σ H Q ⟨α, s, δ, rs, re, g⟩
  dsimp only [evE] at g
  refine ⟨α, s, δ, rs, re, g.bind.imp1 fun α1 s1 H1 xs l1 rs1 ⟨l1', g1⟩ J vs hJ rl L hL => ?_⟩
  have re1 := re.mono l1
  cases hr : lcRun i (evC F cond) (evE F elt) (δ.set i none) xs [] s1 with
  | bad => rw [hr] at g1; exact (show False from g1).elim
  | exc x s2 => rw [hr] at g1; exact (show False from g1).elim
  | ok ys s2 =>
    rw [hr] at g1
    refine lc_turns rs1 re1 rl hJ hL hr fun α' H' vacc l2 rs2 hL2 racc => ?_
    have hl : L ∉ c.φ := fun z => rs1.tr L z hL
    cases cc with
    | false =>
      have g2 : Gd c α1 s1 H1 (PV c Q) (WE W σ) (.ok (.lst ys) s2) := g1
      refine g2 α' H' l2 rs2.lower (.ref L) (.lst hL2 (fun b hb z => rs2.fr b hb (by rw [z]; exact List.mem_cons_self)) hl racc.lower)
    | true =>
      have g2 : Gd c α1 s1 H1 (PV c Q) (WE W σ) (.ok (.cell s2.nx) (s2.new (.lst ys))) := g1
      refine g2 (αn α' s2 L) H' (l2.settle rs2.lt hL) (rs2.settle hL2 hl racc) (.ref L) (.cell (Nat.lt_succ_self _) fun _ => by rw [αn_new])
end
end MP
/-! MP9: every expression's meaning is sound. -/
namespace MP
open PySem PySem.Spec PyProof.Rows L2 LamX NdefX

theorem Wd.at {X : Cx} {c : Cn} {F : Fn} {G : Gs} {k : Nat} (w : Wd X c F G k) (φ : List Addr) : Wd X (c.at φ) F G k :=
  ⟨w.eK, w.calm, w.room, fun x a h => ⟨(w.run x a h).ex, (w.run x a h).kp⟩, w.live, w.lrun, w.lmk, w.lok, w.fns, w.cls, w.inst, w.cons, w.blt, w.exs, w.isx, w.tryx, w.ist⟩
theorem tgB_ok {X : Cx} {scope : Scope} {x : Str} (h : tgB X.env.scope scope x = true) (s : Shared) (H : Hp) (C : Addr) (cl : List (Str × Addr)) (fp : List Addr) :
    Loc (X.blk s H scope (compEnvC scope cl C X.env) fp).env.scope x ∧ ((X.blk s H scope (compEnvC scope cl C X.env) fp).fn x = true ∨ (X.blk s H scope (compEnvC scope cl C X.env) fp).env.scope.names.lookup x = some .local) := by
  unfold tgB at h
  have e : (X.blk s H scope (compEnvC scope cl C X.env) fp).env.scope = relS scope X.env.scope := rfl
  rw [e]
  split at h
  · rename_i q
    exact ⟨.inl q, .inr q⟩
  · rename_i q
    split at h
    · rename_i q2
      refine ⟨.inr q, .inl ?_⟩
      show (scope.names.lookup x == some .cell) = true
      rw [q2]; rfl
    · cases h
  · cases h
section
variable {F : Fn} {G : Gs} {k : Nat}
/-- lambda ..: b -/
theorem snd_lam {X : Cx} {c : Cn} {W : WX} {x : Str} {ps : Arguments} {b : Expr} {sc : Scope} {pos : Pos} (w : Wd X c F G k) (h1 : G.lm = true) (h2 : G.okl x ps b sc = true) : PE X (.Lambda ps b sc pos) (tE c W (evE F (.fn x))) := by
  refine ⟨fun pins s0 σ H Q I ⟨α, s, δ, rs, re, g⟩ => ?_⟩
  obtain ⟨co, P, ec, TB, there, only⟩ := w.lmk h1
  obtain ⟨lam, d1, d2, nf⟩ := w.lok x ps b sc h2
  have nodef : defaultsOf ps X.env = ([], []) := by
    obtain ⟨q1, q2, q3, q4, q5, q6, q7⟩ := ps
    dsimp only at d1 d2
    subst d1 d2
    rfl
  refine lam_mk I TB ec nodef there only rs.tb (fun y hy e => absurd e (nf y hy)) fun f cc H1 s1 I1 ex trk tb nH aF aC => ?_
  have l : Le α s H α s H1 := ⟨Nat.le_refl _, fun _ _ h => ⟨h, rfl⟩, fun i h1 h2 => absurd (rs.lt i h2) (Nat.not_lt.mpr h1), fun b hb z => hb (trk b z), fun b o e n _ => ex b o e n⟩
  have r1 : Rs c α s H1 := ⟨rs.inj, rs.lt, fun i y e => (rs.cell i y e).step l (by
    have mu := rs.mutC (i := i) (by rw [e]; simp)
    cases q : H (α i) with
    | none => rw [q] at mu; exact mu.elim
    | some o => exact ex _ o q fun z e => by rw [q, e] at mu; exact mu), rs.fr, fun a ha z => rs.tr a ha (trk a z), tb⟩
  rw [clo_nil nf] at aF
  have rp : Rep c α s H1 (.ref f) (.fn x) := .lam (lam _ cc) aF aC
  dsimp only [evE] at g
  exact ⟨.ref f, H1, I1, rfl, g α H1 l r1 (.ref f) rp⟩
mutual
theorem sndE : ∀ (a : E) {X : Cx} {c : Cn} {W : WX} {e : Expr}, Wd X c F G k → Takes X W → X.N.Nodup → okE X.N X.env.scope G a e = true → PE X e (tE c W (evE F a)) ∧ (noIf a = true → PT X e (tT c W (evE F a)))
  | .var i, X, c, W, e, w, tk, nd, h => by
    unfold okE at h
    split at h
    · rename_i x hx
      obtain ⟨p, rfl⟩ := vName_ok hx
      simp only [Bool.and_eq_true, decide_eq_true_eq] at h
      have q := snd_var (c := c) (F := F) (W := W) (pos := p) h.1.1 (visB_ok h.1.2) h.2
      exact ⟨q, fun _ => pt_of rfl q⟩
    · cases h
  | .non, X, c, W, e, w, tk, nd, h => by
    unfold okE at h
    split at h
    · rename_i hx
      obtain ⟨j, p, rfl⟩ := vConst_ok hx
      have q : PE X (.Constant .none j p) (tE c W (evE F .non)) := snd_c (fun _ _ => rfl) pe_non fun _ _ _ _ => .non
      exact ⟨q, fun _ => pt_of rfl q⟩
    · cases h
  | .bl b, X, c, W, e, w, tk, nd, h => by
    unfold okE at h
    split at h
    · rename_i b' hx
      obtain ⟨j, p, rfl⟩ := vConst_ok hx
      simp only [decide_eq_true_eq] at h
      subst h
      have q : PE X (.Constant (.bool b) j p) (tE c W (evE F (.bl b))) := snd_c (fun _ _ => rfl) pe_bl fun _ _ _ _ => .bl _
      exact ⟨q, fun _ => pt_of rfl q⟩
    · cases h
  | .int b, X, c, W, e, w, tk, nd, h => by
    unfold okE at h
    split at h
    · rename_i b' hx
      obtain ⟨j, p, rfl⟩ := vConst_ok hx
      simp only [decide_eq_true_eq] at h
      subst h
      have q : PE X (.Constant (.int b) j p) (tE c W (evE F (.int b))) := snd_c (fun _ _ => rfl) pe_int fun _ _ _ _ => .int _
      exact ⟨q, fun _ => pt_of rfl q⟩
    · cases h
  | .str b, X, c, W, e, w, tk, nd, h => by
    unfold okE at h
    split at h
    · rename_i b' hx
      obtain ⟨j, p, rfl⟩ := vConst_ok hx
      simp only [decide_eq_true_eq] at h
      subst h
      have q : PE X (.Constant (.str b) j p) (tE c W (evE F (.str b))) := snd_c (fun _ _ => rfl) pe_str fun _ _ _ _ => .str _
      exact ⟨q, fun _ => pt_of rfl q⟩
    · cases h
  | .fn x, X, c, W, e, w, tk, nd, h => by
    unfold okE at h
    split at h
    · rename_i y hx
      obtain ⟨p, rfl⟩ := vName_ok hx
      simp only [Bool.and_eq_true, decide_eq_true_eq] at h
      obtain ⟨⟨rfl, h1⟩, h2⟩ := h
      obtain ⟨g1, g2⟩ := glB_ok h1
      obtain ⟨a, f1, f2⟩ := w.fns x h2
      have q : PE X (.Name x p) (tE c W (evE F (.fn x))) := (pe_glob g1 f2 rfl (okName_ok g2).1 : PE X (.Name x p) (L2.tC (.ref a))).imp fun σ H Q ⟨α, s, δ, rs, re, g⟩ => by
        dsimp only [evE] at g
        exact g.here rs (.fn f1)
      exact ⟨q, fun _ => pt_of rfl q⟩
    · split at h
      · rename_i ps b s2 hx
        obtain ⟨p, rfl⟩ := vLam_ok hx
        simp only [Bool.and_eq_true] at h
        have q : PE X (.Lambda ps b s2 p) (tE c W (evE F (.fn x))) := snd_lam w h.1 h.2
        exact ⟨q, fun _ => pt_of rfl q⟩
      · cases h
  | .con x i, X, c, W, e, w, tk, nd, h => by
    unfold okE at h
    split at h
    · rename_i y hx
      obtain ⟨p, rfl⟩ := vName_ok hx
      simp only [Bool.and_eq_true, decide_eq_true_eq] at h
      obtain ⟨⟨rfl, h1⟩, h2⟩ := h
      obtain ⟨g1, g2⟩ := glB_ok h1
      obtain ⟨t, f2⟩ := w.cons (x, i) h2
      have q : PE X (.Name x p) (tE c W (evE F (.con x i))) := (pe_glob g1 f2 ⟨t, rfl⟩ (okName_ok g2).1 : PE X (.Name x p) (L2.tC (.int i))).imp fun σ H Q ⟨α, s, δ, rs, re, g⟩ => by
        dsimp only [evE] at g
        exact g.here rs (.int _)
      exact ⟨q, fun _ => pt_of rfl q⟩
    · cases h
  | .bin op a b, X, c, W, e, w, tk, nd, h => by
    unfold okE at h
    split at h
    · rename_i l o r hx
      obtain ⟨p, rfl⟩ := vBin_ok hx
      simp only [Bool.and_eq_true, decide_eq_true_eq] at h
      obtain ⟨⟨rfl, h1⟩, h2⟩ := h
      have q := snd_bin (op := op) (pos := p) w (sndE a w tk nd h1).1 (sndE b w tk nd h2).1
      exact ⟨q, fun _ => pt_of rfl q⟩
    · cases h
  | .neg a, X, c, W, e, w, tk, nd, h => by
    unfold okE at h
    split at h
    · rename_i o x hx
      obtain ⟨p, rfl⟩ := vUn_ok hx
      simp only [Bool.and_eq_true, decide_eq_true_eq] at h
      obtain ⟨rfl, h1⟩ := h
      have q := snd_neg (pos := p) w (sndE a w tk nd h1).1
      exact ⟨q, fun _ => pt_of rfl q⟩
    · cases h
  | .nt a, X, c, W, e, w, tk, nd, h => by
    unfold okE at h
    split at h
    · rename_i o x hx
      obtain ⟨p, rfl⟩ := vUn_ok hx
      simp only [Bool.and_eq_true, decide_eq_true_eq] at h
      obtain ⟨⟨rfl, h0⟩, h1⟩ := h
      have r := sndE a w tk nd h1
      have q := snd_nt (pos := p) w r.1 (r.2 h0)
      exact ⟨q.1, fun _ => q.2⟩
    · cases h
  | .an es, X, c, W, e, w, tk, nd, h => by
    unfold okE at h
    split at h
    · rename_i o vs hx
      obtain ⟨p, rfl⟩ := vBool_ok hx
      simp only [Bool.and_eq_true, decide_eq_true_eq, Bool.not_eq_true'] at h
      obtain ⟨⟨⟨rfl, h0⟩, h1⟩, h2⟩ := h
      have r := sndAnd es (pos := p) w tk nd h1 h0 (by intro z; rw [z] at h2; cases h2)
      exact ⟨r.1, fun _ => r.2.pt⟩
    · cases h
  | .orr es, X, c, W, e, w, tk, nd, h => by
    unfold okE at h
    split at h
    · rename_i o vs hx
      obtain ⟨p, rfl⟩ := vBool_ok hx
      simp only [Bool.and_eq_true, decide_eq_true_eq, Bool.not_eq_true'] at h
      obtain ⟨⟨⟨rfl, h0⟩, h1⟩, h2⟩ := h
      have r := sndOr es (pos := p) w tk nd h1 h0 (by intro z; rw [z] at h2; cases h2)
      exact ⟨r.1, fun _ => r.2.pt⟩
    · cases h
  | .cmp op a b, X, c, W, e, w, tk, nd, h => by
    unfold okE at h
    split at h
    · rename_i l o r hx
      obtain ⟨p, rfl⟩ := vCmp1_ok hx
      simp only [Bool.and_eq_true, decide_eq_true_eq] at h
      obtain ⟨⟨⟨rfl, h0⟩, h1⟩, h2⟩ := h
      have q := snd_cmp (op := op) (pos := p) w h0 (sndE a w tk nd h1).1 (sndE b w tk nd h2).1
      exact ⟨q.1, fun _ => q.2⟩
    · cases h
  | .chn op op' a b d, X, c, W, e, w, tk, nd, h => by
    unfold okE at h
    split at h
    · rename_i l o m o' r hx
      obtain ⟨p, rfl⟩ := vCmp2_ok hx
      simp only [Bool.and_eq_true, decide_eq_true_eq] at h
      obtain ⟨⟨⟨⟨⟨rfl, rfl⟩, h0⟩, h1⟩, h2⟩, h3⟩ := h
      have q := snd_chn (op := op) (op' := op') (pos := p) w h0 (sndE a w tk nd h1).1 (sndE b w tk nd h2).1 (sndE d w tk nd h3).1
      exact ⟨q.1, fun _ => q.2⟩
    · cases h
  | .chn3 op op' op'' a b d f, X, c, W, e, w, tk, nd, h => by
    unfold okE at h
    split at h
    · rename_i l o m o' r o'' r' hx
      obtain ⟨p, rfl⟩ := vCmp3_ok hx
      simp only [Bool.and_eq_true, decide_eq_true_eq] at h
      obtain ⟨⟨⟨⟨⟨⟨⟨rfl, rfl⟩, rfl⟩, h0⟩, h1⟩, h2⟩, h3⟩, h4⟩ := h
      have q := snd_chn3 (op := op) (op' := op') (op'' := op'') (pos := p) w h0 (sndE a w tk nd h1).1 (sndE b w tk nd h2).1 (sndE d w tk nd h3).1 (sndE f w tk nd h4).1
      exact ⟨q.1, fun _ => q.2⟩
    · cases h
  | .revL a, X, c, W, e, w, tk, nd, h => by
    unfold okE at h
    split at h
    · rename_i f g x hx
      obtain ⟨p, q, rfl⟩ := vRevL_ok hx
      split at h
      · rename_i y z hy hz
        obtain ⟨p1, rfl⟩ := vName_ok hy
        obtain ⟨p2, rfl⟩ := vName_ok hz
        simp only [Bool.and_eq_true, decide_eq_true_eq] at h
        obtain ⟨⟨⟨⟨⟨⟨⟨rfl, rfl⟩, g1⟩, g2⟩, h1⟩, h2⟩, hs⟩, h3⟩ := h
        have r := snd_revL (p := p1) (p2 := p2) (pos := p) (pos2 := q) w g1 g2 h1 h2 hs (sndE a w tk nd h3).1
        exact ⟨r, fun _ => pt_of rfl r⟩
      · cases h
    · cases h
  | .ife d a b, X, c, W, e, w, tk, nd, h => by
    unfold okE at h
    split at h
    · rename_i t x y hx
      obtain ⟨p, rfl⟩ := vIf_ok hx
      simp only [Bool.and_eq_true] at h
      obtain ⟨⟨⟨h0, h1⟩, h2⟩, h3⟩ := h
      exact ⟨snd_ife (pos := p) w ((sndE d w tk nd h1).2 h0) (sndE a w tk nd h2).1 (sndE b w tk nd h3).1, fun z => by cases z⟩
    · cases h
  | .ix a b, X, c, W, e, w, tk, nd, h => by
    unfold okE at h
    split at h
    · rename_i x y hx
      obtain ⟨p, rfl⟩ := vSub_ok hx
      simp only [Bool.and_eq_true] at h
      obtain ⟨⟨h0, h1⟩, h2⟩ := h
      have q := snd_ix (pos := p) w h0 (sndE a w tk nd h1).1 (sndE b w tk nd h2).1
      exact ⟨q, fun _ => pt_of rfl q⟩
    · cases h
  | .sl a lo hi, X, c, W, e, w, tk, nd, h => by
    unfold okE at h
    split at h
    · rename_i x y hx
      obtain ⟨p, rfl⟩ := vSub_ok hx
      simp only [Bool.and_eq_true] at h
      obtain ⟨h1, h⟩ := h
      split at h
      · rename_i l u hy
        obtain ⟨p2, rfl⟩ := vSl_ok hy
        simp only [Bool.and_eq_true] at h
        have q := snd_sl (p := p2) (pos := p) w (sndE a w tk nd h1).1 (sndEo lo w tk nd h.1) (sndEo hi w tk nd h.2)
        exact ⟨q, fun _ => pt_of rfl q⟩
      · cases h
    · cases h
  | .rev a, X, c, W, e, w, tk, nd, h => by
    unfold okE at h
    split at h
    · rename_i x y hx
      obtain ⟨p, rfl⟩ := vSub_ok hx
      simp only [Bool.and_eq_true] at h
      obtain ⟨h0, h1⟩ := h
      obtain ⟨kk, p1, p2, p3, rfl⟩ := vRev_ok h0
      have q := snd_rev (kk := kk) (p := p1) (q := p2) (r := p3) (pos := p) w (sndE a w tk nd h1).1
      exact ⟨q, fun _ => pt_of rfl q⟩
    · cases h
  | .tup es, X, c, W, e, w, tk, nd, h => by
    unfold okE at h
    split at h
    · rename_i vs hx
      obtain ⟨kk, p, rfl⟩ := vTup_ok hx
      simp only [Bool.and_eq_true] at h
      have q := snd_tup (kk := kk) (pos := p) (sndEs es w tk nd h.1 h.2)
      exact ⟨q, fun _ => pt_of rfl q⟩
    · cases h
  | .lst es, X, c, W, e, w, tk, nd, h => by
    unfold okE at h
    split at h
    · rename_i vs hx
      obtain ⟨p, rfl⟩ := vLst_ok hx
      simp only [Bool.and_eq_true] at h
      have q := snd_lst (pos := p) (sndEs es w tk nd h.1 h.2)
      exact ⟨q, fun _ => pt_of rfl q⟩
    · cases h
  | .dnew, X, c, W, e, w, tk, nd, h => by
    unfold okE at h
    obtain ⟨p, rfl⟩ := vDict0_ok h
    have q : PE X (.Dict [] [] p) (tE c W (evE F .dnew)) := snd_dnew
    exact ⟨q, fun _ => pt_of rfl q⟩
  | .lstC es, X, c, W, e, w, tk, nd, h => by
    unfold okE at h
    split at h
    · rename_i vs hx
      obtain ⟨p, rfl⟩ := vLst_ok hx
      simp only [Bool.and_eq_true] at h
      have q := snd_lstC (pos := p) (sndEs es w tk nd h.1 h.2)
      exact ⟨q, fun _ => pt_of rfl q⟩
    · cases h
  | .call f es, X, c, W, e, w, tk, nd, h => by
    unfold okE at h
    split at h
    · rename_i g args hx
      obtain ⟨p, rfl⟩ := vCall_ok hx
      split at h
      · rename_i y hy
        obtain ⟨p2, rfl⟩ := vName_ok hy
        simp only [Bool.and_eq_true, decide_eq_true_eq] at h
        obtain ⟨⟨⟨⟨rfl, h1⟩, h2⟩, h3⟩, h4⟩ := h
        have q := snd_call (p := p2) (pos := p) w tk h1 h2 h3 h4 (sndEs es w tk nd h3 h4)
        exact ⟨q, fun _ => pt_of rfl q⟩
      · cases h
    · cases h
  | .callv i es, X, c, W, e, w, tk, nd, h => by
    unfold okE at h
    split at h
    · rename_i g args hx
      obtain ⟨p, rfl⟩ := vCall_ok hx
      split at h
      · rename_i y hy
        obtain ⟨p2, rfl⟩ := vName_ok hy
        simp only [Bool.and_eq_true, decide_eq_true_eq] at h
        obtain ⟨⟨⟨⟨h0, h1⟩, h2⟩, h3⟩, h4⟩ := h
        have q : PE X (.Call (.Name y p2) args [] p) (tE c W (evE F (.callv i es))) := by
          have := snd_callv (pos := p) w tk h3 h4 (snd_var (c := c) (F := F) (W := W) (pos := p2) h0 (visB_ok h1) h2) (sndEs es w tk nd h3 h4) (.inl ⟨_, _, rfl⟩)
          exact this
        exact ⟨q, fun _ => pt_of rfl q⟩
      · cases h
    · cases h
  | .callc f es, X, c, W, e, w, tk, nd, h => by
    unfold okE at h
    split at h
    · rename_i g args hx
      obtain ⟨p, rfl⟩ := vCall_ok hx
      simp only [Bool.and_eq_true] at h
      obtain ⟨⟨⟨h0, h1⟩, h3⟩, h4⟩ := h
      have q : PE X (.Call g args [] p) (tE c W (evE F (.callc f es))) := by
        have := snd_callv (pos := p) w tk h3 h4 (sndE f w tk nd h1).1 (sndEs es w tk nd h3 h4) (.inr (vIsCall_ok h0))
        exact this
      exact ⟨q, fun _ => pt_of rfl q⟩
    · cases h
  | .blt b es, X, c, W, e, w, tk, nd, h => by
    unfold okE at h
    split at h
    · rename_i g args hx
      obtain ⟨p, rfl⟩ := vCall_ok hx
      split at h
      · rename_i y hy
        obtain ⟨p2, rfl⟩ := vName_ok hy
        simp only [Bool.and_eq_true, decide_eq_true_eq, Bool.not_eq_true'] at h
        obtain ⟨⟨⟨⟨⟨rfl, h1⟩, h2⟩, h3⟩, h5⟩, h4⟩ := h
        have hne : args ≠ [] := by intro z; rw [z] at h5; cases h5
        cases b with
        | isin T =>
          dsimp only at h4
          split at h4
          · rename_i x t
            split at h4
            · rename_i t' ht
              obtain ⟨p3, rfl⟩ := vName_ok ht
              simp only [Bool.and_eq_true, decide_eq_true_eq] at h4
              obtain ⟨⟨⟨⟨rfl, k1⟩, k2⟩, k3⟩, k4⟩ := h4
              cases es with
              | nil => simp [okEs] at k4
              | cons a as =>
                cases as with
                | cons b bs => simp [okEs] at k4
                | nil =>
                  unfold okEs at k4
                  simp only [Bool.and_eq_true] at k4
                  simp only [List.all_cons, Bool.and_eq_true] at h3
                  have q := snd_isin (p := p2) (q := p3) (pos := p) w h1 h2 k1 k2 k3 h3.1 (sndE a w tk nd k4.1).1
                  exact ⟨q, fun _ => pt_of rfl q⟩
            · cases h4
          · cases h4
        | _ =>
          have q := snd_blt (p := p2) (pos := p) w (fun T z => by cases z) h1 h2 h3 hne (sndEs es w tk nd h3 h4)
          exact ⟨q, fun _ => pt_of rfl q⟩
      · cases h
    · cases h
  | .isT a Ts subs, X, c, W, e, w, tk, nd, h => by
    unfold okE at h
    split at h
    · rename_i g args hx
      obtain ⟨p, rfl⟩ := vCall_ok hx
      split at h
      · rename_i y hy
        obtain ⟨p2, rfl⟩ := vName_ok hy
        simp only [Bool.and_eq_true, decide_eq_true_eq] at h
        obtain ⟨⟨⟨⟨⟨rfl, h1⟩, h2⟩, h3⟩, h5⟩, h4⟩ := h
        split at h4
        · rename_i x t
          split at h4
          · rename_i es ht
            obtain ⟨kk, p3, rfl⟩ := vTup_ok ht
            simp only [Bool.and_eq_true, decide_eq_true_eq] at h4
            obtain ⟨⟨⟨k1, k2⟩, k3⟩, k4⟩ := h4
            simp only [List.all_cons, Bool.and_eq_true] at h3
            have q := snd_isT (p := p2) (kk := kk) (p2 := p3) (pos := p) w h1 h2 h5 k2 k1 k3 h3.1 (sndE a w tk nd k4).1
            exact ⟨q, fun _ => pt_of rfl q⟩
          · cases h4
        · cases h4
      · cases h
    · cases h
  | .mc m o es, X, c, W, e, w, tk, nd, h => by
    unfold okE at h
    split at h
    · rename_i ob m' args ln hx
      obtain ⟨ap, pos, rfl, rfl⟩ := vMeth_ok hx
      simp only [Bool.and_eq_true, decide_eq_true_eq] at h
      obtain ⟨⟨⟨⟨⟨⟨⟨rfl, h1⟩, h2⟩, h3⟩, h4⟩, h5⟩, h6⟩, h7⟩ := h
      have q := snd_mc (m := m) w h3 h1 h2 h5 h6 (fun z => by
        rw [z] at h7
        cases es with
        | nil => rfl
        | cons b bs => unfold okEs at h7; cases h7) (sndE o w tk nd h4).1 (sndEs es w tk nd h5 h7)
      exact ⟨q, fun _ => pt_of rfl q⟩
    · cases h
  | .isE a T subs, X, c, W, e, w, tk, nd, h => by
    unfold okE at h
    split at h
    · rename_i g args hx
      obtain ⟨p, rfl⟩ := vCall_ok hx
      split at h
      · rename_i y hy
        obtain ⟨p2, rfl⟩ := vName_ok hy
        simp only [Bool.and_eq_true, decide_eq_true_eq] at h
        obtain ⟨⟨⟨⟨⟨rfl, h1⟩, h2⟩, h3⟩, h5⟩, h4⟩ := h
        split at h4
        · rename_i x t
          split at h4
          · rename_i t' ht
            obtain ⟨p3, rfl⟩ := vName_ok ht
            simp only [Bool.and_eq_true, decide_eq_true_eq] at h4
            obtain ⟨⟨rfl, k1⟩, k2⟩ := h4
            simp only [List.all_cons, Bool.and_eq_true] at h3
            have q := snd_isE (p := p2) (q := p3) (pos := p) w h1 h2 h5 k1 h3.1 (sndE a w tk nd k2).1
            exact ⟨q, fun _ => pt_of rfl q⟩
          · cases h4
        · cases h4
      · cases h
    · cases h
  | .mk C es, X, c, W, e, w, tk, nd, h => by
    unfold okE at h
    split at h
    · rename_i g args hx
      obtain ⟨p, rfl⟩ := vCall_ok hx
      split at h
      · rename_i y hy
        obtain ⟨p2, rfl⟩ := vName_ok hy
        simp only [Bool.and_eq_true, decide_eq_true_eq] at h
        obtain ⟨⟨⟨⟨rfl, h1⟩, h2⟩, h3⟩, h4⟩ := h
        have q := snd_mk (p := p2) (pos := p) w tk h1 h2 h3 h4 (sndEs es w tk nd h3 h4)
        exact ⟨q, fun _ => pt_of rfl q⟩
      · cases h
    · cases h
  | .meth o m es, X, c, W, e, w, tk, nd, h => by
    unfold okE at h
    split at h
    · rename_i ob m' args ln hx
      obtain ⟨ap, p, rfl, rfl⟩ := vMeth_ok hx
      simp only [Bool.and_eq_true, decide_eq_true_eq] at h
      obtain ⟨⟨⟨⟨⟨⟨rfl, h1⟩, h2⟩, h3⟩, h4⟩, h5⟩, h6⟩ := h
      have q := snd_meth (m := m) w tk h3 h1 h2 h5 h6 (sndE o w tk nd h4).1 (sndEs es w tk nd h5 h6)
      exact ⟨q, fun _ => pt_of rfl q⟩
    · cases h
  | .join a b, X, c, W, e, w, tk, nd, h => by
    unfold okE at h
    split at h
    · rename_i ob m' args ln hx
      obtain ⟨ap, p, rfl, rfl⟩ := vMeth_ok hx
      simp only [Bool.and_eq_true, decide_eq_true_eq] at h
      obtain ⟨⟨⟨⟨rfl, h1⟩, h3⟩, h4⟩, h5⟩ := h
      split at h5
      · simp only [Bool.and_eq_true] at h5
        have q := snd_join w h3 h1 h5.1 (sndE a w tk nd h4).1 (sndE b w tk nd h5.2).1
        exact ⟨q, fun _ => pt_of rfl q⟩
      · cases h5
    · cases h
  | .pop o, X, c, W, e, w, tk, nd, h => by
    unfold okE at h
    split at h
    · rename_i ob m' args ln hx
      obtain ⟨ap, p, rfl, rfl⟩ := vMeth_ok hx
      simp only [Bool.and_eq_true, decide_eq_true_eq, List.isEmpty_iff] at h
      obtain ⟨⟨⟨⟨rfl, h1⟩, rfl⟩, h4⟩, h5⟩ := h
      have q := snd_pop w h4 h1 (sndE o w tk nd h5).1
      exact ⟨q, fun _ => pt_of rfl q⟩
    · cases h
  | .fld o f, X, c, W, e, w, tk, nd, h => by
    unfold okE at h
    split at h
    · rename_i ob f' hx
      obtain ⟨p, rfl⟩ := vAttr_ok hx
      simp only [Bool.and_eq_true, decide_eq_true_eq] at h
      obtain ⟨⟨⟨rfl, h1⟩, h3⟩, h4⟩ := h
      have q := snd_fld (pos := p) w h1 h3 (sndE o w tk nd h4).1
      exact ⟨q, fun _ => pt_of rfl q⟩
    · cases h
  | .lc cc i src cond elt, X, c, W, e, w, tk, nd, h => by
    unfold okE at h
    split at h
    · rename_i el scope gs hx
      obtain ⟨p, rfl⟩ := vLC_ok hx
      split at h
      · rename_i x iter ifs hy
        obtain ⟨p2, rfl⟩ := vGen_ok hy
        simp only [Bool.and_eq_true, decide_eq_true_eq] at h
        obtain ⟨⟨⟨⟨⟨⟨⟨h0, h1⟩, h2⟩, h3⟩, h4⟩, h5⟩, h6⟩, h7⟩ := h
        have ok := blkOk_by h1
        have hg : ∀ (s : Shared) (H : Hp) (C : Addr) (cl : List (Str × Addr)) (fp : List Addr), PG (X.blk s H scope (compEnvC scope cl C X.env) fp) (.Name x p2) (gName i) := fun s H C cl fp =>
          pg_name nd h0 (tgB_ok h2 s H C cl fp).1 (tgB_ok h2 s H C cl fp).2
        have ht : ∀ (φ : List Addr) (s : Shared) (H : Hp) (C : Addr) (cl : List (Str × Addr)) (fp : List Addr), PTs (X.blk s H scope (compEnvC scope cl C X.env) fp) ifs (tCnd (c.at φ) W0 (evC F cond)) := fun φ s H C cl fp =>
          sndC cond ((w.at φ).of rfl rfl rfl rfl rfl rfl rfl rfl rfl) L2.takes0 nd h4 h6
        have he : ∀ (φ : List Addr) (s : Shared) (H : Hp) (C : Addr) (cl : List (Str × Addr)) (fp : List Addr), PE (X.blk s H scope (compEnvC scope cl C X.env) fp) el (tE (c.at φ) W0 (evE F elt)) := fun φ s H C cl fp =>
          (sndE elt (X := X.blk s H scope (compEnvC scope cl C X.env) fp) ((w.at φ).of rfl rfl rfl rfl rfl rfl rfl rfl rfl) L2.takes0 nd h7).1
        have q := (pe_lc (pos := p) w.calm nd (sndW src (tg := .Name x p2) w tk nd h5) ok hg (fun s H C cl fp => ⟨fun pins s0 σ H0 Q I ⟨φ, z⟩ => (ht φ s H C cl fp).run pins s0 σ H0 Q I z⟩) (fun s H C cl fp => PE.ex fun φ => he φ s H C cl fp) (notSet_ok h3)).imp
          (snd_lc (cc := cc) (pos := p) w nd ok h3 (sndW src (tg := .Name x p2) w tk nd h5) hg ht he)
        exact ⟨q, fun _ => pt_of rfl q⟩
      · cases h
    · cases h
theorem sndEs : ∀ (as : Es) {X : Cx} {c : Cn} {W : WX} {es : List Expr}, Wd X c F G k → Takes X W → X.N.Nodup → es.all notStar = true → okEs X.N X.env.scope G as es = true → PA X es (tL c W (evEs F as))
  | .nil, X, c, W, es, w, tk, nd, hs, h => by
    unfold okEs at h
    rw [List.isEmpty_iff] at h
    subst h
    refine pa_nil.imp fun σ H Q ⟨α, s, δ, rs, re, g⟩ => ?_
    dsimp only [evEs] at g
    exact g.ok_here rs _ .nil
  | .cons a as, X, c, W, es, w, tk, nd, hs, h => by
    unfold okEs at h
    split at h
    · rename_i e es
      simp only [Bool.and_eq_true] at h
      simp only [List.all_cons, Bool.and_eq_true] at hs
      refine (pa_cons (sndE a w tk nd h.1).1 (sndEs as w tk nd hs.2 h.2) (star_plain hs.1)).imp fun σ H Q ⟨α, s, δ, rs, re, g⟩ => ?_
      dsimp only [evEs] at g
      exact tE.first rs re g fun α1 s1 H1 v x l1 rs1 re1 rv g1 => tL.first rs1 re1 g1 fun α2 s2 H2 vs xs l2 rs2 re2 rvs g2 => g2.ok_here rs2 _ (.cons (rv.mono l2) rvs)
    · cases h
theorem sndEo : ∀ (a : Eo) {X : Cx} {c : Cn} {W : WX} {e : Option Expr}, Wd X c F G k → Takes X W → X.N.Nodup → okEo X.N X.env.scope G a e = true → PO X e (tO c W (evEo F a))
  | .none, X, c, W, e, w, tk, nd, h => by
    unfold okEo at h
    rw [Option.isNone_iff_eq_none] at h
    subst h
    exact snd_po_none
  | .some a, X, c, W, e, w, tk, nd, h => by
    unfold okEo at h
    split at h
    · exact snd_po_some (sndE a w tk nd h).1
    · cases h
theorem sndC : ∀ (a : Eo) {X : Cx} {c : Cn} {W : WX} {ifs : List Expr}, Wd X c F G k → Takes X W → X.N.Nodup → noIfo a = true → okC X.N X.env.scope G a ifs = true → PTs X ifs (tCnd c W (evC F a))
  | .none, X, c, W, e, w, tk, nd, h0, h => by
    unfold okC at h
    rw [List.isEmpty_iff] at h
    subst h
    exact ⟨fun pins s σ H Q I q => pts_nil.run pins s σ H Q I q⟩
  | .some a, X, c, W, e, w, tk, nd, h0, h => by
    unfold okC at h
    split at h
    · exact pts_one ((sndE a w tk nd h).2 h0)
    · cases h
theorem sndW : ∀ (a : MP.W) {X : Cx} {c : Cn} {W : WX} {tg e : Expr}, Wd X c F G k → Takes X W → X.N.Nodup → okW X.N X.env.scope G a e = true → PI X tg e (tW c W (evW F a))
  | .seq a, X, c, W, tg, e, w, tk, nd, h => by
    unfold okW at h
    exact snd_wseq w (sndE a w tk nd h).1
  | .rng a, X, c, W, tg, e, w, tk, nd, h => by
    unfold okW at h
    split at h
    · rename_i g args hx
      obtain ⟨p, rfl⟩ := vCall_ok hx
      split at h
      · rename_i y hy
        obtain ⟨p2, rfl⟩ := vName_ok hy
        simp only [Bool.and_eq_true, decide_eq_true_eq] at h
        obtain ⟨⟨⟨rfl, h1⟩, h2⟩, h3⟩ := h
        split at h3
        · simp only [Bool.and_eq_true] at h3
          exact snd_wrng w h1 h2 h3.1 (sndE a w tk nd h3.2).1
        · cases h3
      · cases h
    · cases h
  | .rng2 a b, X, c, W, tg, e, w, tk, nd, h => by
    unfold okW at h
    split at h
    · rename_i g args hx
      obtain ⟨p, rfl⟩ := vCall_ok hx
      split at h
      · rename_i y hy
        obtain ⟨p2, rfl⟩ := vName_ok hy
        simp only [Bool.and_eq_true, decide_eq_true_eq] at h
        obtain ⟨⟨⟨rfl, h1⟩, h2⟩, h3⟩ := h
        split at h3
        · simp only [Bool.and_eq_true] at h3
          obtain ⟨⟨⟨k1, k2⟩, k3⟩, k4⟩ := h3
          exact snd_wrng2 w h1 h2 k1 k2 (sndE a w tk nd k3).1 (sndE b w tk nd k4).1
        · cases h3
      · cases h
    · cases h
theorem sndAnd : ∀ (as : Es) {X : Cx} {c : Cn} {W : WX} {es : List Expr} {pos : Pos}, Wd X c F G k → Takes X W → X.N.Nodup → okEs X.N X.env.scope G as es = true → noIfs as = true → es ≠ [] →
    PE X (.BoolOp .And es pos) (tE c W (evAnd F as)) ∧ PW X (.BoolOp .And es pos) (tT c W (evAnd F as))
  | .nil, X, c, W, es, pos, w, tk, nd, h, h0, hne => by
    unfold okEs at h
    rw [List.isEmpty_iff] at h
    exact absurd h hne
  | .cons a .nil, X, c, W, es, pos, w, tk, nd, h, h0, hne => by
    cases es with
    | nil => exact absurd rfl hne
    | cons e es =>
      unfold okEs at h
      simp only [Bool.and_eq_true] at h
      obtain ⟨h1, h2⟩ := h
      unfold okEs at h2
      rw [List.isEmpty_iff] at h2
      subst h2
      unfold noIfs at h0
      simp only [Bool.and_eq_true] at h0
      have r := sndE a w tk nd h1
      exact ⟨(pe_one r.1).imp fun σ H Q z => z, (pw_and1 (r.2 h0.1)).imp fun σ H Q z => z⟩
  | .cons a (.cons b bs), X, c, W, es, pos, w, tk, nd, h, h0, hne => by
    cases es with
    | nil => exact absurd rfl hne
    | cons e es =>
      unfold okEs at h
      simp only [Bool.and_eq_true] at h
      obtain ⟨h1, h2⟩ := h
      cases es with
      | nil => unfold okEs at h2; cases h2
      | cons e2 es =>
        unfold noIfs at h0
        simp only [Bool.and_eq_true] at h0
        have r := sndE a w tk nd h1
        have q := sndAnd (.cons b bs) (pos := pos) w tk nd h2 h0.2 (by simp)
        exact snd_and r.1 (r.2 h0.1) q.1 q.2
theorem sndOr : ∀ (as : Es) {X : Cx} {c : Cn} {W : WX} {es : List Expr} {pos : Pos}, Wd X c F G k → Takes X W → X.N.Nodup → okEs X.N X.env.scope G as es = true → noIfs as = true → es ≠ [] →
    PE X (.BoolOp .Or es pos) (tE c W (evOr F as)) ∧ PW X (.BoolOp .Or es pos) (tT c W (evOr F as))
  | .nil, X, c, W, es, pos, w, tk, nd, h, h0, hne => by
    unfold okEs at h
    rw [List.isEmpty_iff] at h
    exact absurd h hne
  | .cons a .nil, X, c, W, es, pos, w, tk, nd, h, h0, hne => by
    cases es with
    | nil => exact absurd rfl hne
    | cons e es =>
      unfold okEs at h
      simp only [Bool.and_eq_true] at h
      obtain ⟨h1, h2⟩ := h
      unfold okEs at h2
      rw [List.isEmpty_iff] at h2
      subst h2
      unfold noIfs at h0
      simp only [Bool.and_eq_true] at h0
      have r := sndE a w tk nd h1
      exact ⟨(pe_one r.1).imp fun σ H Q z => z, (pw_or1 (r.2 h0.1)).imp fun σ H Q z => z⟩
  | .cons a (.cons b bs), X, c, W, es, pos, w, tk, nd, h, h0, hne => by
    cases es with
    | nil => exact absurd rfl hne
    | cons e es =>
      unfold okEs at h
      simp only [Bool.and_eq_true] at h
      obtain ⟨h1, h2⟩ := h
      cases es with
      | nil => unfold okEs at h2; cases h2
      | cons e2 es =>
        unfold noIfs at h0
        simp only [Bool.and_eq_true] at h0
        have r := sndE a w tk nd h1
        have q := sndOr (.cons b bs) (pos := pos) w tk nd h2 h0.2 (by simp)
        exact snd_or r.1 (r.2 h0.1) q.1 q.2
end
end
end MP
/-! MP10: statements: their meaning, which text means them. -/
namespace MP
open PySem PySem.Spec PyProof.Rows L2 LamX NdefX

inductive SO where
  | nx (δ : Env) (s : Sto)
  | rt (d : D) (s : Sto)
  | exc (x : Exn) (δ : Env) (s : Sto)
  | bad
def thenS {α : Type} (r : Res α) (δ : Env) (k : α → Sto → SO) : SO := match r with
  | .ok a s => k a s
  | .exc x s => .exc x δ s
  | .bad => .bad
def SO.andThen (o : SO) (k : Env → Sto → SO) : SO := match o with
  | .nx δ s => k δ s
  | o => o
/-- a row of slots -/
def putAll : List Nat → List D → Env → Env
  | i :: is, d :: ds, δ => putAll is ds (δ.set i (some d))
  | _, _, δ => δ
def unpD (is : List Nat) (d : D) (δ : Env) (s : Sto) : SO := match d with
  | .tup xs => if xs.length = is.length then .nx (putAll is xs δ) s else .bad
  | .lst xs => if xs.length = is.length then .nx (putAll is xs δ) s else .bad
  | _ => .bad
def ixN (n : Nat) (i : Int) : Option Nat := L2.ixN n i
def sixD (o i d : D) (s : Sto) : Option Sto := match o, i with
  | .cell j, .int k => match s.m j with
    | some (.lst xs) => match L2.ixN xs.length k with
      | some m => some (s.set j (.lst (xs.set m d)))
      | none => none
    | some (.dct kvs) => if kvs.length < sizeLine then some (s.set j (.dct (putKD kvs (.inl k) d))) else none
    | _ => none
  | _, _ => none
def sfldD (o : D) (f : Str) (d : D) (s : Sto) : Option Sto := match o with
  | .cell j => match s.m j with
    | some (.ins C fs) => if fs.length < 1000 then some (s.set j (.ins C (putF f d fs))) else none
    | _ => none
  | _ => none
def slsD (o : D) (i k : Int) (d : D) (s : Sto) : Option Sto := match o, d with
  | .cell j, .lst ys => match s.m j with
    | some (.lst xs) => if 0 ≤ i ∧ i ≤ k ∧ k ≤ (xs.length : Int) ∧ xs.length + ys.length ≤ sizeLine then some (s.set j (.lst (xs.take i.toNat ++ ys ++ xs.drop k.toNat))) else none
    | _ => none
  | _, _ => none
def appD (o d : D) (s : Sto) : Option Sto := match o with
  | .cell j => match s.m j with
    | some (.lst xs) => if xs.length < sizeLine then some (s.set j (.lst (xs ++ [d]))) else none
    | _ => none
  | _ => none
def optS (o : Option Sto) (δ : Env) : SO := match o with
  | some s => .nx δ s
  | none => .bad
def frzD (d : D) (s : Sto) : SO := match d with
  | .cell j => match s.m j with
    | some (.lst xs) => .rt (.lst xs) (s.del j)
    | some (.dct kvs) => .rt (.dks (kvs.map (·.1))) (s.del j)
    | _ => .bad
  | _ => .bad
/-- a loop, at most n turns -/
def whN (c : Env → Sto → Res D) (b : Env → Sto → SO) : Nat → Env → Sto → SO
  | 0, _, _ => .bad
  | n + 1, δ, s => thenS (c δ s) δ fun x s1 => match x with
    | .bl true => (b δ s1).andThen (whN c b n)
    | .bl false => .nx δ s1
    | _ => .bad
def forN (st : D → Env → Sto → SO) (b : Env → Sto → SO) : List D → Env → Sto → SO
  | [], δ, s => .nx δ s
  | x :: xs, δ, s => ((st x δ s).andThen b).andThen (forN st b xs)
/-! the same data, letter by letter -/
mutual
def sameD : D → D → Bool
  | .non, .non => true
  | .bl a, .bl b => a == b
  | .int a, .int b => a == b
  | .str a, .str b => decide (a = b)
  | .tup a, .tup b => sameDs a b
  | .lst a, .lst b => sameDs a b
  | .scr a, .scr b => a == b
  | .cell a, .cell b => a == b
  | .fn a, .fn b => decide (a = b)
  | .ty a, .ty b => a == b
  | .dks a, .dks b => decide (a = b)
  | .ex a, .ex b => decide (a = b)
  | _, _ => false
def sameDs : List D → List D → Bool
  | [], [] => true
  | x :: xs, y :: ys => sameD x y && sameDs xs ys
  | _, _ => false
end
mutual
theorem sameD_eq : ∀ {x y : D}, sameD x y = true → x = y
  | .non, y, h => by cases y <;> first | rfl | (simp [sameD] at h)
  | .bl a, y, h => by cases y <;> first | (simp [sameD] at h; rw [h]) | (simp [sameD] at h)
  | .int a, y, h => by cases y <;> first | (simp [sameD] at h; rw [h]) | (simp [sameD] at h)
  | .str a, y, h => by cases y <;> first | (simp [sameD] at h; rw [h]) | (simp [sameD] at h)
  | .tup a, y, h => by cases y <;> first | (simp only [sameD] at h; rw [sameDs_eq h]) | (simp [sameD] at h)
  | .lst a, y, h => by cases y <;> first | (simp only [sameD] at h; rw [sameDs_eq h]) | (simp [sameD] at h)
  | .scr a, y, h => by cases y <;> first | (simp [sameD] at h; rw [h]) | (simp [sameD] at h)
  | .cell a, y, h => by cases y <;> first | (simp [sameD] at h; rw [h]) | (simp [sameD] at h)
  | .fn a, y, h => by cases y <;> first | (simp [sameD] at h; rw [h]) | (simp [sameD] at h)
  | .ty a, y, h => by cases y <;> first | (simp [sameD] at h; rw [h]) | (simp [sameD] at h)
  | .dks a, y, h => by cases y <;> first | (simp [sameD] at h; rw [h]) | (simp [sameD] at h)
  | .ex a, y, h => by cases y <;> first | (simp [sameD] at h; rw [h]) | (simp [sameD] at h)
theorem sameDs_eq : ∀ {xs ys : List D}, sameDs xs ys = true → xs = ys
  | [], ys, h => by cases ys <;> first | rfl | (simp [sameDs] at h)
  | x :: xs, [], h => by simp [sameDs] at h
  | x :: xs, y :: ys, h => by
    simp only [sameDs, Bool.and_eq_true] at h
    rw [sameD_eq h.1, sameDs_eq h.2]
end
mutual
theorem sameD_refl : ∀ x : D, sameD x x = true
  | .non => rfl
  | .bl a => by simp [sameD]
  | .int a => by simp [sameD]
  | .str a => by simp [sameD]
  | .tup a => by simp only [sameD]; exact sameDs_refl a
  | .lst a => by simp only [sameD]; exact sameDs_refl a
  | .scr a => by simp [sameD]
  | .cell a => by simp [sameD]
  | .fn a => by simp [sameD]
  | .ty a => by simp [sameD]
  | .dks a => by simp [sameD]
  | .ex a => by simp [sameD]
theorem sameDs_refl : ∀ xs : List D, sameDs xs xs = true
  | [] => rfl
  | x :: xs => by simp only [sameDs, sameD_refl x, sameDs_refl xs, Bool.and_self]
end
def holds (s : Sto) (i : Nat) (xs : List D) : Bool := match s.m i with
  | some (.lst ys) => sameDs ys xs
  | _ => false
theorem holds_eq {s : Sto} {i : Nat} {xs : List D} (h : holds s i xs = true) : s.m i = some (.lst xs) := by
  unfold holds at h
  split at h
  · rename_i ys q
    rw [q, sameDs_eq h]
  · cases h
/-- a list is walked that may change, but does not -/
def forCN (i : Nat) (all : List D) (st : D → Env → Sto → SO) (b : Env → Sto → SO) : List D → Env → Sto → SO
  | [], δ, s => if holds s i all = true then .nx δ s else .bad
  | x :: xs, δ, s => if holds s i all = true then ((st x δ s).andThen b).andThen (forCN i all st b xs) else .bad
def forCD (st : D → Env → Sto → SO) (b : Env → Sto → SO) (d : D) (δ : Env) (s : Sto) : SO := match d with
  | .cell i => (match s.m i with
    | some (.lst xs) => forCN i xs st b xs δ s
    | _ => .bad)
  | _ => .bad
def set1 (i : Nat) (d : D) (δ : Env) (s : Sto) : SO := .nx (δ.set i (some d)) s
/-- an exception comes to a clause that keeps it: i the slot of its name, j the one that it is kept in -/
def keepD (i j : Nat) (subs : List (Str × Bool)) (x : Exn) (δ : Env) (s : Sto) : SO := match x.fs, subs.lookup x.cls with
  | [], some true => if i < δ.length then .nx ((δ.set j (some (.ex x.cls))).set i none) s else .bad
  | _, some false => .exc x δ s
  | _, _ => .bad
def SO.onExc (o : SO) (k : Exn → Env → Sto → SO) : SO := match o with
  | .exc x δ s => k x δ s
  | o => o
/-- how many turns a while may take -/
def turns : Nat := 1000000
mutual
noncomputable def evS (F : Fn) : S → Env → Sto → SO
  | .asg i e, δ, s => thenS (evE F e δ s) δ fun d s1 => .nx (δ.set i (some d)) s1
  | .unp is e, δ, s => thenS (evE F e δ s) δ fun d s1 => unpD is d δ s1
  | .par i j a b, δ, s => thenS (evE F a δ s) δ fun x s1 => thenS (evE F b δ s1) δ fun y s2 => .nx ((δ.set i (some x)).set j (some y)) s2
  | .six2 t o i p q, δ, s => thenS (evE F t δ s) δ fun d s1 => match d with
    | .tup [x, y] => thenS (evE F o δ s1) δ fun a s2 => thenS (evE F i δ s2) δ fun b s3 => match sixD a b x s3 with
      | some s4 => thenS (evE F p δ s4) δ fun a' s5 => thenS (evE F q δ s5) δ fun b' s6 => optS (sixD a' b' y s6) δ
      | none => .bad
    | _ => .bad
  | .six o i e, δ, s => thenS (evE F e δ s) δ fun d s1 => thenS (evE F o δ s1) δ fun x s2 => thenS (evE F i δ s2) δ fun y s3 => optS (sixD x y d s3) δ
  | .sfld o f e, δ, s => thenS (evE F e δ s) δ fun d s1 => thenS (evE F o δ s1) δ fun x s2 => optS (sfldD x f d s2) δ
  | .app o e, δ, s => thenS (evE F o δ s) δ fun x s1 => if isLstC x s1 = true then thenS (evE F e δ s1) δ fun d s2 => optS (appD x d s2) δ else .bad
  | .expr e, δ, s => thenS (evE F e δ s) δ fun _ s1 => .nx δ s1
  | .ret e, δ, s => thenS (evE F e δ s) δ fun d s1 => .rt d s1
  | .retF i, δ, s => thenS (getV δ i s) δ fun d s1 => frzD d s1
  | .retN, _, s => .rt .non s
  | .pass, δ, s => .nx δ s
  | .ifs c a b, δ, s => thenS (evE F c δ s) δ fun x s1 => match x with
    | .bl true => evSs F a δ s1
    | .bl false => evSs F b δ s1
    | _ => .bad
  | .whl c b, δ, s => whN (evE F c) (evSs F b) turns δ s
  | .for1 i src b, δ, s => thenS (evW F src δ s) δ fun xs s1 => forN (set1 i) (evSs F b) xs δ s1
  | .forT is src b, δ, s => thenS (evW F src δ s) δ fun xs s1 => forN (unpD is) (evSs F b) xs δ s1
  | .forC1 i e b, δ, s => thenS (evE F e δ s) δ fun d s1 => forCD (set1 i) (evSs F b) d δ s1
  | .forCT is e b, δ, s => thenS (evE F e δ s) δ fun d s1 => forCD (unpD is) (evSs F b) d δ s1
  | .forZ is x y b, δ, s => thenS (evE F x δ s) δ fun a s1 => thenS (evE F y δ s1) δ fun a' s2 => match a, a' with
    | .lst xs, .lst ys => forN (unpD is) (evSs F b) (List.zipWith (fun p q => D.tup [p, q]) xs ys) δ s2
    | _, _ => .bad
  | .slset o lo hi e, δ, s => thenS (evE F e δ s) δ fun d s1 => thenS (evE F o δ s1) δ fun x s2 => thenS (evE F lo δ s2) δ fun l s3 => match l with
    | .int i => thenS (evE F hi δ s3) δ fun h s4 => match h with
      | .int k => optS (slsD x i k d s4) δ
      | _ => .bad
    | _ => .bad
  | .raise C, δ, s => .exc ⟨C, []⟩ δ s
  | .tryK _ i j subs b, δ, s => (evSs F b δ s).onExc (keepD i j subs)
noncomputable def evSs (F : Fn) : Ss → Env → Sto → SO
  | .nil, δ, s => .nx δ s
  | .cons st r, δ, s => (evS F st δ s).andThen (evSs F r)
end

/-! ### views -/
def locB (sc : Scope) (x : Str) : Bool := match sc.names.lookup x with
  | some .local => true
  | some .cell => true
  | _ => false
theorem locB_ok {sc : Scope} {x : Str} (h : locB sc x = true) : Loc sc x := by
  unfold locB at h
  split at h
  · exact .inl (by assumption)
  · exact .inr (by assumption)
  · cases h
def localB (sc : Scope) (x : Str) : Bool := match sc.names.lookup x with
  | some .local => true
  | _ => false
theorem localB_ok {sc : Scope} {x : Str} (h : localB sc x = true) : sc.names.lookup x = some .local := by
  unfold localB at h
  split at h
  · assumption
  · cases h
/-- the target is a slot's name -/
def tgName (N : List Str) (sc : Scope) (i : Nat) (t : Expr) : Bool := match vName t with
  | some x => decide (N[i]? = some x) && locB sc x
  | none => false
def tgNames (N : List Str) (sc : Scope) : List Nat → List Expr → Bool
  | [], [] => true
  | i :: is, t :: ts => tgName N sc i t && tgNames N sc is ts
  | _, _ => false
def notComp : Expr → Bool
  | .ListComp .. => false
  | .SetComp .. => false
  | .DictComp .. => false
  | _ => true
theorem notComp_ok {e : Expr} {t : Option Expr} {l : Nat} {env : PySem.Env} (h : notComp e = true) : swapsWith e t l env = pure false := by
  cases e <;> first | rfl | cases h
def isTupE : Expr → Bool
  | .Tuple .. => true
  | _ => false
theorem notTup_ok {ts : List Expr} {e : Expr} {env : PySem.Env} (h : isTupE e = false) : swappedStores ts e env = pure none := by
  unfold swappedStores
  cases e with
  | Tuple _ _ _ => cases h
  | _ => rcases ts with _ | ⟨t, _ | ⟨_, _⟩⟩ <;> first | rfl | (cases t <;> rfl)
def lineOf : List Expr → Nat
  | e :: _ => e.pos.line
  | [] => 0
def parNames (sc : Scope) (ts : List Expr) : List Str := ts.filterMap fun
    | .Name id pos => if sc.names.lookup id == some .local && pos.line == (ts.head?.map (·.pos.line)).getD 0 then some id else none
    | _ => none
/-- no stores from the right -/
def noSwap (sc : Scope) (ts : List Expr) (e : Expr) : Bool := !isTupE e || (parNames sc ts).length != ts.length
def vAsg : Stmt → Option (Expr × Expr)
  | .Assign ts e _ => (match ts with
    | [t] => some (t, e)
    | _ => none)
  | _ => none
def vExpr : Stmt → Option Expr
  | .Expr e _ => some e
  | _ => none
def vRet : Stmt → Option (Option Expr)
  | .Return e _ => some e
  | _ => none
def vPass : Stmt → Bool
  | .Pass _ => true
  | _ => false
def vIfS : Stmt → Option (Expr × List Stmt × List Stmt)
  | .If c a b _ => some (c, a, b)
  | _ => none
def vWhl : Stmt → Option (Expr × List Stmt)
  | .While c b o _ => (match o with
    | [] => some (c, b)
    | _ => none)
  | _ => none
def vFor : Stmt → Option (Expr × Expr × List Stmt)
  | .For t i b o _ => (match o with
    | [] => some (t, i, b)
    | _ => none)
  | _ => none
def vRaise : Stmt → Option Expr
  | .Raise (some e) none _ => some e
  | _ => none
theorem vAsg_ok {st : Stmt} {t e : Expr} (h : vAsg st = some (t, e)) : ∃ pos, st = .Assign [t] e pos := by
  unfold vAsg at h
  split at h
  · split at h
    · cases h; exact ⟨_, rfl⟩
    · cases h
  · cases h
theorem vExpr_ok {st : Stmt} {e : Expr} (h : vExpr st = some e) : ∃ pos, st = .Expr e pos := by cases st <;> cases h; exact ⟨_, rfl⟩
theorem vRet_ok {st : Stmt} {e : Option Expr} (h : vRet st = some e) : ∃ pos, st = .Return e pos := by cases st <;> cases h; exact ⟨_, rfl⟩
theorem vPass_ok {st : Stmt} (h : vPass st = true) : ∃ pos, st = .Pass pos := by cases st <;> cases h; exact ⟨_, rfl⟩
theorem vIfS_ok {st : Stmt} {c : Expr} {a b : List Stmt} (h : vIfS st = some (c, a, b)) : ∃ pos, st = .If c a b pos := by cases st <;> cases h; exact ⟨_, rfl⟩
theorem vWhl_ok {st : Stmt} {c : Expr} {b : List Stmt} (h : vWhl st = some (c, b)) : ∃ pos, st = .While c b [] pos := by
  unfold vWhl at h
  split at h
  · split at h
    · cases h; exact ⟨_, rfl⟩
    · cases h
  · cases h
theorem vFor_ok {st : Stmt} {t i : Expr} {b : List Stmt} (h : vFor st = some (t, i, b)) : ∃ pos, st = .For t i b [] pos := by
  unfold vFor at h
  split at h
  · split at h
    · cases h; exact ⟨_, rfl⟩
    · cases h
  · cases h
theorem vRaise_ok {st : Stmt} {e : Expr} (h : vRaise st = some e) : ∃ pos, st = .Raise (some e) none pos := by
  unfold vRaise at h
  split at h
  · cases h; exact ⟨_, rfl⟩
  · cases h
/-- X('..') -/
def vMsg (sc : Scope) (G : Gs) (C : Str) (e : Expr) : Bool := match vCall e with
  | some (g, args) => (match vName g with
    | some x => decide (x = C) && glB sc x && decide (x ∈ G.exs) && (match args with
      | [m] => (match vConst m with
        | some (.str _) => true
        | _ => false)
      | _ => false)
    | none => false)
  | none => false
def vTry : Stmt → Option (List Stmt × Expr × Str × List Stmt)
  | .Try b hs o f _ => (match hs, o, f with
    | [.ExceptHandler (some t) (some n) u _], [], [] => some (b, t, n, u)
    | _, _, _ => none)
  | _ => none
theorem vTry_ok {st : Stmt} {b u : List Stmt} {t : Expr} {n : Str} (h : vTry st = some (b, t, n, u)) : ∃ p q, st = .Try b [.ExceptHandler (some t) (some n) u p] [] [] q := by
  unfold vTry at h
  split at h
  · split at h
    · cases h; exact ⟨_, _, rfl⟩
    · cases h
  · cases h
/-- y = n, alone -/
def vKeep (N : List Str) (sc : Scope) (j : Nat) (n : Str) : List Stmt → Bool
  | [a] => (match vAsg a with
    | some (tg, e) => tgName N sc j tg && (match vName e with
      | some x => decide (x = n)
      | none => false)
    | none => false)
  | _ => false
theorem vKeep_ok {N : List Str} {sc : Scope} {j : Nat} {n : Str} {u : List Stmt} (h : vKeep N sc j n u = true) : ∃ y p q r, u = [.Assign [.Name y p] (.Name n q) r] ∧ N[j]? = some y ∧ locB sc y = true := by
  unfold vKeep at h
  split at h
  · split at h
    · rename_i tg e hv
      obtain ⟨r, rfl⟩ := vAsg_ok hv
      simp only [Bool.and_eq_true] at h
      obtain ⟨h1, h2⟩ := h
      unfold tgName at h1
      split at h1
      · rename_i y hy
        obtain ⟨p, rfl⟩ := vName_ok hy
        split at h2
        · rename_i x hx
          obtain ⟨q, rfl⟩ := vName_ok hx
          simp only [Bool.and_eq_true, decide_eq_true_eq] at h1 h2
          subst h2
          exact ⟨_, _, _, _, rfl, h1.1, h1.2⟩
        · cases h2
      · cases h1
    · cases h
  · cases h
/-- [a, b] as two expressions -/
def vTwo : Expr → Option (Expr × Expr)
  | .Tuple es _ _ => (match es with
    | [a, b] => some (a, b)
    | _ => none)
  | _ => none
theorem vTwo_ok {e a b : Expr} (h : vTwo e = some (a, b)) : ∃ k pos, e = .Tuple [a, b] k pos := by
  unfold vTwo at h
  split at h
  · split at h
    · cases h; exact ⟨_, _, rfl⟩
    · cases h
  · cases h
def isLc : E → Bool
  | .lc .. => true
  | _ => false
/-- whether a comprehension is stored at once -/
def swapsB (e : Expr) (y : Str) (p : Pos) (env : PySem.Env) : Bool := match e with
  | .ListComp a b scope pos => env.blockKind == .function && env.kindOf y == some .local && p.line == pos.line && !(scope.names.any fun (n, k) => n == y && (k == .local || k == .cell))
  | _ => false
theorem swapsB_ok {el : Expr} {gs : List Comprehension} {scope : Scope} {pos p : Pos} {y : Str} {l : Nat} {env : PySem.Env} : swapsWith (.ListComp el gs scope pos) (some (.Name y p)) l env = pure (swapsB (.ListComp el gs scope pos) y p env) := rfl
mutual
def okS (N : List Str) (sc : Scope) (G : Gs) : S → Stmt → Bool
  | .asg i e, st => match vAsg st with
    | some (t, e') => tgName N sc i t && (isLc e || notComp e') && okE N sc G e e'
    | none => false
  | .unp is e, st => match vAsg st with
    | some (t, e') => notComp e' && (match vTup t with
      | some ts => noSwap sc ts e' && tgNames N sc is ts && okE N sc G e e'
      | none => false)
    | none => false
  | .par i j a b, st => match vAsg st with
    | some (t, e') => (match vTwo t, vTwo e' with
      | some (x, y), some (u, v) => (match vName x, vName y with
        | some xn, some yn => decide (i ≠ j) && decide (N[i]? = some xn) && decide (N[j]? = some yn) && localB sc xn && localB sc yn && decide (xn ≠ yn) && (x.pos.line == y.pos.line) &&
            notStar u && notStar v && !(foldedForSure 8 u && foldedForSure 8 v) && !(constantsAlone 8 u && constantsAlone 8 v) && okE N sc G a u && okE N sc G b v
        | _, _ => false)
      | _, _ => false)
    | none => false
  | .six2 t o i p q, st => match vAsg st with
    | some (tg, e') => notComp e' && (match vTup tg with
      | some [t1, t2] => noSwap sc [t1, t2] e' && (match vSub t1, vSub t2 with
        | some (o', i'), some (p', q') => plainIx i' && plainIx q' && okE N sc G o o' && okE N sc G i i' && okE N sc G p p' && okE N sc G q q' && okE N sc G t e'
        | _, _ => false)
      | _ => false)
    | none => false
  | .six o i e, st => match vAsg st with
    | some (t, e') => notComp e' && !isTupE e' && (match vSub t with
      | some (o', i') => plainIx i' && okE N sc G o o' && okE N sc G i i' && okE N sc G e e'
      | none => false)
    | none => false
  | .sfld o f e, st => match vAsg st with
    | some (t, e') => notComp e' && (match vAttr t with
      | some (o', f') => decide (f = f') && decide (f ∈ G.flds) && okE N sc G o o' && okE N sc G e e'
      | none => false)
    | none => false
  | .app o e, st => match vExpr st with
    | some x => (match vMeth x with
      | some (ob, m, args, ln) => decide (m = ("append" : Str)) && ln && plainObj ob && okE N sc G o ob && (match args with
        | [a] => notStar a && okE N sc G e a
        | _ => false)
      | none => false)
    | none => false
  | .expr e, st => match vExpr st with
    | some x => notComp x && okE N sc G e x
    | none => false
  | .ret e, st => match vRet st with
    | some (some x) => okE N sc G e x
    | _ => false
  | .retF i, st => match vRet st with
    | some (some x) => (match vName x with
      | some y => decide (N[i]? = some y) && visB sc y && okName y
      | none => false)
    | _ => false
  | .retN, st => match vRet st with
    | some none => true
    | _ => false
  | .pass, st => vPass st
  | .ifs c a b, st => match vIfS st with
    | some (c', a', b') => noIf c && okE N sc G c c' && okSs N sc G a a' && okSs N sc G b b'
    | none => false
  | .whl c b, st => match vWhl st with
    | some (c', b') => noIf c && okE N sc G c c' && okSs N sc G b b'
    | none => false
  | .for1 i src b, st => match vFor st with
    | some (t, it, b') => tgName N sc i t && notSet it && okW N sc G src it && okSs N sc G b b'
    | none => false
  | .forT is src b, st => match vFor st with
    | some (t, it, b') => notSet it && okW N sc G src it && okSs N sc G b b' && (match vTup t with
      | some ts => tgNames N sc is ts
      | none => false)
    | none => false
  | .forC1 i e b, st => match vFor st with
    | some (t, it, b') => tgName N sc i t && notSet it && okE N sc G e it && okSs N sc G b b'
    | none => false
  | .forCT is e b, st => match vFor st with
    | some (t, it, b') => notSet it && okE N sc G e it && okSs N sc G b b' && (match vTup t with
      | some ts => tgNames N sc is ts
      | none => false)
    | none => false
  | .forZ is x y b, st => match vFor st with
    | some (t, it, b') => okSs N sc G b b' && (match vTup t, vCall it with
      | some ts, some (g, args) => tgNames N sc is ts && (match vName g with
        | some z => decide (z = ("zip" : Str)) && glB sc z && decide (z ∈ G.blt) && (match args with
          | [u, v] => notStar u && notStar v && okE N sc G x u && okE N sc G y v
          | _ => false)
        | none => false)
      | _, _ => false)
    | none => false
  | .slset o lo hi e, st => match vAsg st with
    | some (t, e') => notComp e' && !isTupE e' && (match vSub t with
      | some (o', y) => (match vSl y with
        | some (some l, some h) => okE N sc G o o' && okE N sc G lo l && okE N sc G hi h && okE N sc G e e'
        | _ => false)
      | none => false)
    | none => false
  | .raise C, st => match vRaise st with
    | some e => vMsg sc G C e
    | none => false
  | .tryK C i j subs b, st => match vTry st with
    | some (b', t, n, u) => (match vName t with
      | some x => decide (x = C) && glB sc x && decide ((C, subs) ∈ G.tryx) && decide (N[i]? = some n) && localB sc n && okName n && vKeep N sc j n u && okSs N sc G b b'
      | none => false)
    | none => false
def okSs (N : List Str) (sc : Scope) (G : Gs) : Ss → List Stmt → Bool
  | .nil, l => l.isEmpty
  | .cons a r, l => match l with
    | st :: l => okS N sc G a st && okSs N sc G r l
    | [] => false
end
end MP
/-! MP11: statements' meanings are sound. -/
namespace MP
open PySem PySem.Spec PyProof.Rows L2 LamX NdefX

theorem noSwap_ok {ts : List Expr} {e : Expr} {k : Nat} {p : Pos} {env : PySem.Env} (h : noSwap env.scope ts e = true) : swappedStores [.Tuple ts k p] e env = pure none := by
  unfold noSwap at h
  simp only [Bool.or_eq_true, Bool.not_eq_true'] at h
  rcases h with h | h
  · exact notTup_ok h
  · cases e with
    | Tuple vs k2 p2 =>
      unfold swappedStores
      dsimp only
      split
      · rfl
      · split
        · rfl
        · rw [if_pos]
          unfold parNames at h
          simp only [Bool.or_eq_true]
          exact .inl h
    | _ => exact notTup_ok rfl
theorem swap_two {x y : Str} {px py : Pos} {a b : Expr} {k k2 : Nat} {p p2 : Pos} {env : PySem.Env} (hk : env.scope.kind = .function) (hx : env.scope.names.lookup x = some .local) (hy : env.scope.names.lookup y = some .local) (hne : x ≠ y) (hl : (px.line == py.line) = true)
    (ha : notStar a = true) (hb : notStar b = true) (hf : (!(foldedForSure 8 a && foldedForSure 8 b)) = true) (hc : (!(constantsAlone 8 a && constantsAlone 8 b)) = true) :
    swappedStores [.Tuple [.Name x px, .Name y py] k p] (.Tuple [a, b] k2 p2) env = pure (some [x, y]) := by
  have h1 : env.kindOf x = some .local := hx
  have h2 : env.kindOf y = some .local := hy
  have hb2 : env.blockKind = .function := by unfold Env.blockKind; rw [hk]; rfl
  have hl' : (py.line == px.line) = true := by rw [beq_iff_eq] at hl ⊢; exact hl.symm
  simp only [Bool.not_eq_true'] at hf hc
  unfold swappedStores
  dsimp only
  rw [hb2]
  refine (if_neg (by simp)).trans ((if_neg ?_).trans ?_)
  · intro hh
    simp only [List.any_cons, List.any_nil, Bool.or_false, Bool.or_eq_true] at hh
    rcases hh with hh | hh
    · cases a <;> first | (cases hh; done) | (cases ha; done)
    · cases b <;> first | (cases hh; done) | (cases hb; done)
  · simp only [List.head?_cons, Option.map_some, Option.getD_some, Expr.pos, List.filterMap_cons, h1, h2, List.filterMap_nil]
    simp [hl', hne, hf, hc, List.eraseDups_cons, Ne.symm hne]

/-! ### readings of statements -/
def GdS (c : Cn) (W : WX) (α : Nat → Addr) (s : Sto) (H : Hp) (D : Ends) (o : SO) : Prop := match o with
  | .nx δ s' => ∀ α' H' σ, Le α s H α' s' H' → Rs c α' s' H' → RepE c α' s' H' σ δ → D.nx σ H'
  | .rt d s' => ∀ α' H' v, Le α s H α' s' H' → Rs c α' s' H' → Rep c α' s' H' v d → D.rt v H'
  | .exc x δ s' => ∀ α' H' σ C d, Le α s H α' s' H' → Rs c α' s' H' → RepE c α' s' H' σ δ → ExOk c α' s' H' x C d → W C d σ H'
  | .bad => False
def tS (c : Cn) (W : WX) (ev : Env → Sto → SO) : TS := fun D σ H => ∃ α s δ, Rs c α s H ∧ RepE c α s H σ δ ∧ GdS c W α s H D (ev δ s)
theorem _root_.L2.PS.imp {X : Cx} {st : Stmt} {t t' : TS} (h : PS X st t) (i : ∀ D σ H, t' D σ H → t D σ H) : PS X st t' := ⟨fun pins s σ H D I q => h.run pins s σ H D I (i D σ H q)⟩
theorem _root_.L2.PSs.imp {X : Cx} {st : List Stmt} {t t' : TS} (h : PSs X st t) (i : ∀ D σ H, t' D σ H → t D σ H) : PSs X st t' := ⟨fun pins s σ H D I q => h.run pins s σ H D I (i D σ H q)⟩
theorem _root_.L2.PG.imp {X : Cx} {e : Expr} {t t' : TG} (h : PG X e t) (i : ∀ v σ H Q, t' v σ H Q → t v σ H Q) : PG X e t' := ⟨fun pins s σ H v u Q I r q => h.run pins s σ H v u Q I r (i v σ H Q q)⟩
section
variable {c : Cn} {W : WX} {α α1 : Nat → Addr} {s s1 : Sto} {H H1 : Hp} {D D' : Ends} {o : SO} {σ : L2.St} {δ : Env}
theorem GdS.step (l : Le α s H α1 s1 H1) (g : GdS c W α s H D o) : GdS c W α1 s1 H1 D o := by
  cases o with
  | nx δ s' => exact fun α' H' σ l' rs re => g α' H' σ (l.trans l') rs re
  | rt d s' => exact fun α' H' v l' rs r => g α' H' v (l.trans l') rs r
  | exc x δ s' => exact fun α' H' σ C d l' rs re e => g α' H' σ C d (l.trans l') rs re e
  | bad => exact g
theorem GdS.nxHere {δ : Env} (rs : Rs c α s H) (re : RepE c α s H σ δ) (g : GdS c W α s H D (.nx δ s)) : D.nx σ H := g α H σ rs.le rs re
theorem GdS.thenG {β : Type} {r : Res β} {k : β → Sto → SO} (rs : Rs c α s H) (re : RepE c α s H σ δ) (g : GdS c W α s H D (thenS r δ k)) :
    Gd c α s H (fun α1 s1 H1 b => Le α s H α1 s1 H1 ∧ RepE c α1 s1 H1 σ δ ∧ GdS c W α1 s1 H1 D (k b s1)) (WE W σ) r := by
  cases r with
  | ok b s' => exact fun α' H' l r' => ⟨l, re.mono l, GdS.step l g⟩
  | exc x s' => exact fun α' H' C d l r' e => g α' H' σ C d l r' (re.mono l) e
  | bad => exact g
/-- a value, then the rest of the statement -/
theorem tE.firstS {eva : Env → Sto → Res MP.D} {k : MP.D → Sto → SO} {R : VK} (rs : Rs c α s H) (re : RepE c α s H σ δ) (g : GdS c W α s H D (thenS (eva δ s) δ k))
    (h : ∀ α1 s1 H1 v x, Le α s H α1 s1 H1 → Rs c α1 s1 H1 → RepE c α1 s1 H1 σ δ → Rep c α1 s1 H1 v x → GdS c W α1 s1 H1 D (k x s1) → R v H1) : tE c W eva σ H R :=
  ⟨α, s, δ, rs, re, (g.thenG rs re).imp1 fun α1 s1 H1 x l r1 q v rv => h α1 s1 H1 v x l r1 q.2.1 rv q.2.2⟩
theorem tT.firstS {eva : Env → Sto → Res MP.D} {k : MP.D → Sto → SO} {R : Bool → Hp → Prop} (rs : Rs c α s H) (re : RepE c α s H σ δ) (g : GdS c W α s H D (thenS (eva δ s) δ k))
    (hb : ∀ x s1 α1 H1, GdS c W α1 s1 H1 D (k x s1) → ∃ b, x = .bl b)
    (h : ∀ α1 s1 H1 b, Le α s H α1 s1 H1 → Rs c α1 s1 H1 → RepE c α1 s1 H1 σ δ → GdS c W α1 s1 H1 D (k (.bl b) s1) → R b H1) : tT c W eva σ H R :=
  ⟨α, s, δ, rs, re, (g.thenG rs re).imp1 fun α1 s1 H1 x l r1 q => by
    obtain ⟨b, rfl⟩ := hb x s1 α1 H1 q.2.2
    exact ⟨b, rfl, h α1 s1 H1 b l r1 q.2.1 q.2.2⟩⟩
/-- one statement, then the next -/
theorem GdS.andThen {k : Env → Sto → SO} (g : GdS c W α s H D (o.andThen k)) (hn : ∀ σ H' α' s' δ', Le α s H α' s' H' → Rs c α' s' H' → RepE c α' s' H' σ δ' → GdS c W α' s' H' D (k δ' s') → D'.nx σ H') (hr : D'.rt = D.rt) : GdS c W α s H D' o := by
  cases o with
  | nx δ s' =>
    intro α' H' σ l rs re
    exact hn σ H' α' s' δ l rs re (GdS.step l g)
  | rt d s' => intro α' H' v l rs r; rw [hr]; exact g α' H' v l rs r
  | exc x δ s' => exact g
  | bad => exact g
end

/-- what a statement's context must have -/
structure Sx (X : Cx) : Prop where
  nd : X.N.Nodup
  own : PassesOwn (model X.prog X.w) X.A X.env X.xe
  fn : ∀ x, X.fn x = true
  kind : X.env.scope.kind = .function
  stk : X.stack = X.env :: X.outer
  frm : X.env.frame = some X.env.locals
  ex0 : X.ex = []
section
variable {X : Cx} {c : Cn} {F : Fn} {G : Gs} {k : Nat} {W : WX}
theorem tgName_ok {i : Nat} {t : Expr} (x : Sx X) (h : tgName X.N X.env.scope i t = true) : PG X t (gName i) := by
  unfold tgName at h
  split at h
  · rename_i y hy
    obtain ⟨p, rfl⟩ := vName_ok hy
    simp only [Bool.and_eq_true, decide_eq_true_eq] at h
    exact pg_name x.nd h.1 (locB_ok h.2) (.inl (x.fn _))
  · cases h
/-- a row of slots takes a row of values -/
def gAll : List Nat → TGs
  | [] => gNil
  | i :: is => gCons (gName i) (gAll is)
theorem assignEach_cons {e : Expr} {es : List Expr} {env : PySem.Env} {x : Str} (h : vName e = some x) : assignEach (e :: es) env = (false, assign e env) :: assignEach es env := by
  obtain ⟨p, rfl⟩ := vName_ok h
  rfl
theorem tgNames_ok (x : Sx X) : ∀ {is : List Nat} {ts : List Expr}, tgNames X.N X.env.scope is ts = true → PGs X ts (gAll is) ∧ (assignEach ts X.env).length = is.length ∧ (assignEach ts X.env).findIdx? (·.1) = none
  | [], [], _ => ⟨pgs_nil, rfl, rfl⟩
  | i :: is, t :: ts, h => by
    unfold tgNames at h
    simp only [Bool.and_eq_true] at h
    obtain ⟨q1, q2, q3⟩ := tgNames_ok x h.2
    have h1 := tgName_ok x h.1
    have hn : ∃ y, vName t = some y := by
      have := h.1
      unfold tgName at this
      split at this
      · exact ⟨_, by assumption⟩
      · cases this
    obtain ⟨y, hy⟩ := hn
    have e := assignEach_cons (es := ts) (env := X.env) hy
    refine ⟨pgs_cons h1 q1 (by rw [e]; rfl), by rw [e]; simp [q2], ?_⟩
    rw [e, List.findIdx?_cons]
    simp [q3]
  | [], _ :: _, h => by unfold tgNames at h; cases h
  | _ :: _, [], h => by unfold tgNames at h; cases h
theorem gAll_ok {α : Nat → Addr} {s : Sto} {H : Hp} {Q : L2.St → Hp → Prop} : ∀ {is : List Nat} {ds : List D} {vs : List V} {σ : L2.St} {δ : Env}, ds.length = is.length → RepL c α s H vs ds → RepE c α s H σ δ → (∀ σ', RepE c α s H σ' (putAll is ds δ) → Q σ' H) → gAll is vs σ H Q
  | [], [], _, σ, δ, _, r, re, h => by cases r; exact ⟨rfl, h σ re⟩
  | i :: is, d :: ds, _, σ, δ, hl, r, re, h => by
    cases r with
    | cons r1 r2 => exact ⟨_, _, rfl, gAll_ok (is := is) (ds := ds) (by simpa using hl) r2 (re.put r1) h⟩
  | [], _ :: _, _, _, _, hl, _, _, _ => by simp at hl
  | _ :: _, [], _, _, _, hl, _, _, _ => by simp at hl
/-- a tuple or a list goes to a row of slots -/
def gUnp (is : List Nat) (K : PySem.W.Frag) : TG := fun v σ H Q => gTup K is.length (gAll is) v σ H Q ∨ gLst K is.length (gAll is) v σ H Q
theorem pg_unp {is : List Nat} {ts : List Expr} {kk : Nat} {pos : Pos} (x : Sx X) (hc : X.calm = true) (h : tgNames X.N X.env.scope is ts = true) : PG X (.Tuple ts kk pos) (gUnp is X.K) := by
  obtain ⟨q1, q2, q3⟩ := tgNames_ok x h
  refine ⟨fun pins s σ H v u Q I r q => ?_⟩
  rcases q with q | q
  · exact (pg_tup hc q1 q2 q3).run pins s σ H v u Q I r q
  · exact (pg_lst hc q1 q2 q3).run pins s σ H v u Q I r q
theorem gUnp_ok {α : Nat → Addr} {s : Sto} {H : Hp} {D : Ends} {is : List Nat} {d : MP.D} {v : V} {σ : L2.St} {δ : Env} (hK : c.K = X.K) (rs : Rs c α s H) (re : RepE c α s H σ δ) (r : Rep c α s H v d) (g : GdS c W α s H D (unpD is d δ s)) : gUnp is X.K v σ H D.nx := by
  unfold unpD at g
  split at g
  · rename_i xs
    split at g
    · rename_i hl
      obtain ⟨a, vs, rfl, hs, rl⟩ := r.tupD
      rw [hK] at hs
      exact .inl ⟨a, vs, rfl, hs, by rw [rl.length]; exact hl, gAll_ok hl rl re fun σ' re' => g.nxHere rs re'⟩
    · exact g.elim
  · rename_i xs
    split at g
    · rename_i hl
      obtain ⟨a, vs, rfl, hs, rl⟩ := r.lstD
      exact .inr ⟨a, vs, rfl, .of hs, by rw [rl.length]; exact hl, gAll_ok hl rl re fun σ' re' => g.nxHere rs re'⟩
    · exact g.elim
  · exact g.elim
theorem sole {t : Expr} {y : Str} {env : PySem.Env} (h : vName t = some y) : (assignEach [t] env).map (·.2) = [assign t env] := by
  obtain ⟨p, rfl⟩ := vName_ok h
  rfl
/-- name = value -/
theorem snd_asg {i : Nat} {e : E} {t e' : Expr} {pos : Pos} (w : Wd X c F G k) (tk : Takes X W) (x : Sx X) (ht : tgName X.N X.env.scope i t = true) (hc : (isLc e || notComp e') = true) (h : okE X.N X.env.scope G e e' = true) : PS X (.Assign [t] e' pos) (tS c W (evS F (.asg i e))) := by
  unfold tgName at ht
  split at ht
  · rename_i y hy
    obtain ⟨p, rfl⟩ := vName_ok hy
    simp only [Bool.and_eq_true, decide_eq_true_eq] at ht
    obtain ⟨h1, h2⟩ := ht
    have fin : ∀ D σ H, tS c W (evS F (.asg i e)) D σ H → tAsg (tE c W (evE F e)) (gName i) D σ H := fun D σ H ⟨α, s, δ, rs, re, g⟩ => by
      dsimp only [evS] at g
      exact tE.firstS rs re g fun α1 s1 H1 v x l1 rs1 re1 rv g1 => g1.nxHere rs1 (re1.put rv)
    have plain : swapsWith e' (some (.Name y p)) pos.line X.env = pure false → PS X (.Assign [.Name y p] e' pos) (tS c W (evS F (.asg i e))) := fun hsw =>
      (ps_set x.nd h1 (locB_ok h2) (sndE e w tk x.nd h).1 hsw (.inl (x.fn _))).imp fin
    by_cases hn : notComp e' = true
    · exact plain (notComp_ok hn)
    · have hl : isLc e = true := by
        rw [Bool.or_eq_true] at hc
        rcases hc with z | z
        · exact z
        · exact absurd z hn
      cases e with
      | lc cc j src cond elt =>
        have h' := h
        unfold okE at h
        split at h
        · rename_i el scope gs hx
          obtain ⟨p1, rfl⟩ := vLC_ok hx
          cases hb : swapsB (.ListComp el gs scope p1) y p X.env with
          | false => exact plain (by rw [swapsB_ok, hb])
          | true =>
            split at h
            · rename_i x' iter ifs hy'
              obtain ⟨p2, rfl⟩ := vGen_ok hy'
              simp only [Bool.and_eq_true, decide_eq_true_eq] at h
              obtain ⟨⟨⟨⟨⟨⟨⟨k0, k1⟩, k2⟩, k3⟩, k4⟩, k5⟩, k6⟩, k7⟩ := h
              have ok := blkOk_by k1
              have hg : ∀ (s : Shared) (H : Hp) (C : Addr) (cl : List (Str × Addr)) (fp : List Addr), PG (X.blk s H scope (compEnvC scope cl C X.env) fp) (.Name x' p2) (gName j) := fun s H C cl fp =>
                pg_name x.nd k0 (tgB_ok k2 s H C cl fp).1 (tgB_ok k2 s H C cl fp).2
              have htt : ∀ (φ : List Addr) (s : Shared) (H : Hp) (C : Addr) (cl : List (Str × Addr)) (fp : List Addr), PTs (X.blk s H scope (compEnvC scope cl C X.env) fp) ifs (tCnd (c.at φ) W0 (evC F cond)) := fun φ s H C cl fp =>
                sndC cond ((w.at φ).of rfl rfl rfl rfl rfl rfl rfl rfl rfl) L2.takes0 x.nd k4 k6
              have he : ∀ (φ : List Addr) (s : Shared) (H : Hp) (C : Addr) (cl : List (Str × Addr)) (fp : List Addr), PE (X.blk s H scope (compEnvC scope cl C X.env) fp) el (tE (c.at φ) W0 (evE F elt)) := fun φ s H C cl fp =>
                (sndE elt (X := X.blk s H scope (compEnvC scope cl C X.env) fp) ((w.at φ).of rfl rfl rfl rfl rfl rfl rfl rfl rfl) L2.takes0 x.nd k7).1
              have hloc : X.env.scope.names.lookup y = some .local := by
                unfold swapsB at hb
                simp only [Bool.and_eq_true, beq_iff_eq] at hb
                exact hb.1.1.2
              exact (ps_setLc (pos := p1) w.calm x.nd h1 hloc (by rw [swapsB_ok, hb]) (sndW src (tg := .Name x' p2) w tk x.nd k5) ok hg (fun s H C cl fp => ⟨fun pins s0 σ H0 Q I ⟨φ, z⟩ => (htt φ s H C cl fp).run pins s0 σ H0 Q I z⟩) (fun s H C cl fp => PE.ex fun φ => he φ s H C cl fp) (notSet_ok k3)).imp
                fun D σ H z => snd_lc (cc := cc) (pos := p1) w x.nd ok k3 (sndW src (tg := .Name x' p2) w tk x.nd k5) hg htt he _ _ _ (fin D σ H z)
            · cases h
        · cases h
      | _ => cases hl
  · cases ht
end
end MP
/-! MP12: every statement's meaning is sound. -/
namespace MP
open PySem PySem.Spec PyProof.Rows L2 LamX NdefX

section
variable {X : Cx} {c : Cn} {F : Fn} {G : Gs} {k : Nat} {W : WX}
theorem swapsSole_ok {e : Expr} {t : Expr} {l : Nat} {env : PySem.Env} (h : notComp e = true) : swapsWithSole [t] e l env = pure false := by
  cases e <;> first | rfl | cases h
theorem snd_unp {is : List Nat} {e : E} {ts : List Expr} {e' : Expr} {kk : Nat} {p pos : Pos} (w : Wd X c F G k) (x : Sx X) (hc : notComp e' = true) (hn : noSwap X.env.scope ts e' = true) (ht : tgNames X.N X.env.scope is ts = true) (he : PE X e' (tE c W (evE F e))) :
    PS X (.Assign [.Tuple ts kk p] e' pos) (tS c W (evS F (.unp is e))) :=
  (ps_asg he (pg_unp (kk := kk) (pos := p) x w.calm ht) (swapsSole_ok hc) (noSwap_ok hn) rfl).imp fun D σ H ⟨α, s, δ, rs, re, g⟩ => by
    dsimp only [evS] at g
    exact tE.firstS rs re g fun α1 s1 H1 v x l1 rs1 re1 rv g1 => gUnp_ok w.eK rs1 re1 rv g1
theorem snd_par {i j : Nat} {a b : E} {x y : Str} {px py p2 p1 pos : Pos} {k1 k2 : Nat} {u v : Expr} (w : Wd X c F G k) (sx : Sx X) (hij : i ≠ j) (hi : X.N[i]? = some x) (hj : X.N[j]? = some y) (hx : X.env.scope.names.lookup x = some .local) (hy : X.env.scope.names.lookup y = some .local) (hne : x ≠ y) (hl : (px.line == py.line) = true)
    (hu : notStar u = true) (hv : notStar v = true) (hf : (!(foldedForSure 8 u && foldedForSure 8 v)) = true) (hcn : (!(constantsAlone 8 u && constantsAlone 8 v)) = true) (ha : PE X u (tE c W (evE F a))) (hb : PE X v (tE c W (evE F b))) :
    PS X (.Assign [.Tuple [.Name x px, .Name y py] k1 p1] (.Tuple [u, v] k2 p2) pos) (tS c W (evS F (.par i j a b))) :=
  (ps_par w.calm sx.nd hi hj hij hx hy (pa_cons ha (pa_cons hb pa_nil (star_plain hv)) (star_plain hu)) (swap_two sx.kind hx hy hne hl hu hv hf hcn)).imp fun D σ H ⟨α, s, δ, rs, re, g⟩ => by
    dsimp only [evS] at g
    exact tE.firstS rs re g fun α1 s1 H1 v x l1 rs1 re1 rv g1 => tE.firstS rs1 re1 g1 fun α2 s2 H2 u y l2 rs2 re2 ru g2 => ⟨v, u, rfl, g2.nxHere rs2 ((re2.put (rv.mono l2)).put ru)⟩
theorem sub_assign {o i : Expr} {pos : Pos} {env : PySem.Env} (h : plainIx i = true) : ∀ v, assign (.Subscript o i pos) env v = (do
      let ov ← holding [v] (eval o env)
      let iv ← holding [v, ov] (eval i env)
      standAt pos
      holding [v, ov, iv] (setItem ov iv v)
      release [v, ov, iv] []) := by
  intro v
  cases i <;> first | rfl | cases h
/-- o[i] = v, o a list or a dict -/
def rSetLD : V → V → V → Hp → (Hp → Prop) → Prop := fun o i v H Q => rSetL o i v H Q ∨ ∃ a H', o = .ref a ∧ DPut H a i v H' ∧ Q H'
theorem set_ld (hu : X.A.units + 1 < cLine) : PSet X rSetLD := by
  intro pins s σ H o i v ov iv u Q I ro ri rv h
  rcases h with h | ⟨a, H', rfl, g, q⟩
  · exact set_list pins s σ H o i v ov iv u Q I ro ri rv h
  · obtain rfl : ov = Value.ref a := ro
    exact d_setItem hu I g ri rv fun s' I' => ⟨H', I', q⟩
/-- what is returned is read only from now on -/
theorem ps_lockRet {st : Stmt} {t : TS} (h : PS X st t) : PS X st (fun D σ H => t ⟨D.nx, fun v H' => D.rt v H' ∨ ∃ d u, v = .ref d ∧ H' d = some u ∧ Mut (some u) ∧ ∀ od, D.rt v (upd H' d (.frz od u)), D.bk, D.ct⟩ σ H) := by
  refine ⟨fun pins s σ H D I hw => ?_⟩
  refine thn (h.run pins s σ _ _ I hw) fun f s1 q => ?_
  cases f with
  | next => exact q
  | brk => exact q
  | cont => exact q
  | ret v =>
    obtain ⟨x, σ', H', I2, r, q⟩ := q
    rcases q with q | ⟨d, u, e, hd, mu, q⟩
    · exact ⟨x, σ', H', I2, r, q⟩
    · obtain ⟨od, I3⟩ := I2.lock hd mu
      exact ⟨x, σ', _, I3, r, q od⟩
theorem snd_six {o i e : E} {o' i' e' : Expr} {p pos : Pos} (w : Wd X c F G k) (hc : notComp e' = true) (hn : isTupE e' = false) (hi : plainIx i' = true) (ho : PE X o' (tE c W (evE F o))) (hii : PE X i' (tE c W (evE F i))) (he : PE X e' (tE c W (evE F e))) :
    PS X (.Assign [.Subscript o' i' p] e' pos) (tS c W (evS F (.six o i e))) :=
  (ps_asg he (pg_sub ho hii (set_ld (by have := room_u w; omega)) (sub_assign hi)) (swapsSole_ok hc) (notTup_ok hn) rfl).imp fun D σ H ⟨α, s, δ, rs, re, g⟩ => by
    dsimp only [evS] at g
    refine tE.firstS rs re g fun α1 s1 H1 v d l1 rs1 re1 rv g1 => tE.firstS rs1 re1 g1 fun α2 s2 H2 u x l2 rs2 re2 ru g2 => tE.firstS rs2 re2 g2 fun α3 s3 H3 z y l3 rs3 re3 rz g3 => ?_
    unfold sixD at g3
    split at g3
    · rename_i j m
      split at g3
      · rename_i xs q
        split at g3
        · rename_i jj hm
          obtain ⟨vs, e1, rl⟩ := rs3.cell j _ q
          have hj : s3.m j ≠ none := by rw [q]; simp
          have hu : u = .ref (α3 j) := by
            cases ru.mono l3 with | cell h1 h2 => exact h2 hj
          have hz := rz.intD
          have l : Le α3 s3 H3 α3 (s3.set j (.lst (xs.set jj d))) (upd H3 (α3 j) (.lst (vs.set jj v))) := Le.write rs3 hj
          have rv3 := (rv.mono l2).mono l3
          refine .inl ⟨α3 j, vs, m, jj, hu, hz, e1, by rw [rl.length]; exact hm, ?_⟩
          exact g3 _ _ σ l (rs3.write hj ⟨_, upd_same, (rl.set jj rv3).mono l⟩) (re3.mono l)
        · exact g3.elim
      · rename_i kvs q
        split at g3
        · rename_i hl
          obtain ⟨vs, e1, rl⟩ := rs3.cell j _ q
          have hj : s3.m j ≠ none := by rw [q]; simp
          have hu : u = .ref (α3 j) := by
            cases ru.mono l3 with | cell h1 h2 => exact h2 hj
          have hz := rz.intD
          have l : Le α3 s3 H3 α3 (s3.set j (.dct (putKD kvs (.inl m) d))) (upd H3 (α3 j) (.dK (putK vs (.inl m) v))) := Le.write rs3 hj
          have rv3 := (rv.mono l2).mono l3
          subst hz
          exact .inr ⟨α3 j, _, hu, DPut.k (k := .inl m) (v := v) e1 (by rw [rl.length]; exact hl), g3 _ _ σ l (rs3.write hj ⟨_, upd_same, (RepK.put rv3 rl).mono l⟩) (re3.mono l)⟩
        · exact g3.elim
      · exact g3.elim
    · exact g3.elim
theorem six_ok {α : Nat → Addr} {s s4 : Sto} {H : Hp} {o i d : MP.D} {u z v : V} {Q : Hp → Prop} (rs : Rs c α s H) (ru : Rep c α s H u o) (rz : Rep c α s H z i) (rv : Rep c α s H v d) (h : sixD o i d s = some s4)
    (q : ∀ H', Le α s H α s4 H' → Rs c α s4 H' → Q H') : rSetLD u z v H Q := by
  unfold sixD at h
  split at h
  · rename_i j m
    split at h
    · rename_i xs e
      split at h
      · rename_i jj hm
        cases h
        obtain ⟨vs, e1, rl⟩ := rs.cell j _ e
        have hj : s.m j ≠ none := by rw [e]; simp
        have hu : u = .ref (α j) := by cases ru with | cell h1 h2 => exact h2 hj
        have l : Le α s H α (s.set j (.lst (xs.set jj d))) (upd H (α j) (.lst (vs.set jj v))) := Le.write rs hj
        exact .inl ⟨α j, vs, m, jj, hu, rz.intD, e1, by rw [rl.length]; exact hm, q _ l (rs.write hj ⟨_, upd_same, (rl.set jj rv).mono l⟩)⟩
      · cases h
    · rename_i kvs e
      split at h
      · rename_i hl
        cases h
        obtain ⟨vs, e1, rl⟩ := rs.cell j _ e
        have hj : s.m j ≠ none := by rw [e]; simp
        have hu : u = .ref (α j) := by cases ru with | cell h1 h2 => exact h2 hj
        have l : Le α s H α (s.set j (.dct (putKD kvs (.inl m) d))) (upd H (α j) (.dK (putK vs (.inl m) v))) := Le.write rs hj
        have hz := rz.intD
        subst hz
        exact .inr ⟨α j, _, hu, DPut.k (k := .inl m) (v := v) e1 (by rw [rl.length]; exact hl), q _ l (rs.write hj ⟨_, upd_same, (RepK.put rv rl).mono l⟩)⟩
      · cases h
    · cases h
  · cases h
theorem snd_six2 {t o i p q : E} {t' o' i' p' q' : Expr} {ps qs pos tp : Pos} {kk : Nat} (w : Wd X c F G k) (hc : notComp t' = true) (hn : noSwap X.env.scope [.Subscript o' i' ps, .Subscript p' q' qs] t' = true) (hi : plainIx i' = true) (hq : plainIx q' = true)
    (ho : PE X o' (tE c W (evE F o))) (hii : PE X i' (tE c W (evE F i))) (hp : PE X p' (tE c W (evE F p))) (hqq : PE X q' (tE c W (evE F q))) (ht : PE X t' (tE c W (evE F t))) :
    PS X (.Assign [.Tuple [.Subscript o' i' ps, .Subscript p' q' qs] kk tp] t' pos) (tS c W (evS F (.six2 t o i p q))) :=
  have hu : X.A.units + 1 < cLine := by have := room_u w; omega
  (ps_asg ht (pg_tup w.calm (pgs_cons (pg_sub ho hii (set_ld hu) (sub_assign hi)) (pgs_cons (pg_sub hp hqq (set_ld hu) (sub_assign hq)) pgs_nil))) (swapsSole_ok hc) (noSwap_ok hn) rfl).imp fun D σ H ⟨α, s, δ, rs, re, g⟩ => by
    dsimp only [evS] at g
    refine tE.firstS rs re g fun α1 s1 H1 v d l1 rs1 re1 rv g1 => ?_
    split at g1
    · rename_i x y
      obtain ⟨a, vs, rfl, hs, rl⟩ := rv.tupD
      rw [w.eK] at hs
      obtain ⟨v1, v2, rfl, r1, r2⟩ := rl.two
      refine ⟨a, [v1, v2], rfl, hs, rfl, v1, [v2], rfl, ?_⟩
      refine tE.firstS rs1 re1 g1 fun α2 s2 H2 u o2 l2 rs2 re2 ru g2 => tE.firstS rs2 re2 g2 fun α3 s3 H3 z i3 l3 rs3 re3 rz g3 => ?_
      split at g3
      · rename_i s4 h4
        refine six_ok rs3 (ru.mono l3) rz ((r1.mono l2).mono l3) h4 fun H4 l4 rs4 => ?_
        have g4 := g3.step l4
        refine ⟨v2, [], rfl, ?_⟩
        refine tE.firstS rs4 (re3.mono l4) g4 fun α5 s5 H5 u5 o5 l5 rs5 re5 ru5 g5 => tE.firstS rs5 re5 g5 fun α6 s6 H6 z6 i6 l6 rs6 re6 rz6 g6 => ?_
        cases h7 : sixD o5 i6 y s6 with
        | none => rw [h7] at g6; exact g6.elim
        | some s7 =>
          rw [h7] at g6
          refine six_ok rs6 (ru5.mono l6) rz6 (((((r2.mono l2).mono l3).mono l4).mono l5).mono l6) h7 fun H7 l7 rs7 => ⟨rfl, ?_⟩
          exact (g6.step l7).nxHere rs7 (re6.mono l7)
      · exact g3.elim
    · exact g1.elim
theorem snd_sfld {o e : E} {f : Str} {o' e' : Expr} {p pos : Pos} (w : Wd X c F G k) (hc : notComp e' = true) (hf : f ∈ G.flds) (ho : PE X o' (tE c W (evE F o))) (he : PE X e' (tE c W (evE F e))) :
    PS X (.Assign [.Attribute o' f p] e' pos) (tS c W (evS F (.sfld o f e))) :=
  (ps_fld ho he (notComp_ok hc)).imp fun D σ H ⟨α, s, δ, rs, re, g⟩ => by
    dsimp only [evS] at g
    refine tE.firstS rs re g fun α1 s1 H1 v d l1 rs1 re1 rv g1 => tE.firstS rs1 re1 g1 fun α2 s2 H2 u x l2 rs2 re2 ru g2 => ?_
    unfold sfldD at g2
    split at g2
    · rename_i j
      split at g2
      · rename_i C fs q
        split at g2
        · rename_i hl
          obtain ⟨Ca, dx, vfs, e1, e2, e3⟩ := rs2.cell j _ q
          have hj : s2.m j ≠ none := by rw [q]; simp
          have hu : u = .ref (α2 j) := by cases ru with | cell h1 h2 => exact h2 hj
          obtain ⟨k1, k2, k3⟩ := w.inst C Ca e1
          have l : Le α2 s2 H2 α2 (s2.set j (.ins C (putF f d fs))) (upd H2 (α2 j) (.ins Ca dx (L2.putF f v vfs))) := Le.write rs2 hj
          refine ⟨α2 j, Ca, dx, vfs, hu, e2, k1, k2 f hf, by rw [e3.length]; exact hl, ?_⟩
          exact g2 _ _ σ l (rs2.write hj ⟨Ca, dx, _, e1, upd_same, (RepF.put (rv.mono l2) e3).mono l⟩) (re2.mono l)
        · exact g2.elim
      · exact g2.elim
    · exact g2.elim
theorem snd_app {o e : E} {ob e' : Expr} {ap pos pos2 : Pos} (w : Wd X c F G k) (hb : plainObj ob = true) (hl : (ap.endLine == pos.line) = true) (hs : notStar e' = true) (ho : PE X ob (tE c W (evE F o))) (he : PE X e' (tE c W (evE F e))) :
    PS X (.Expr (.Call (.Attribute ob "append" ap) [e'] [] pos) pos2) (tS c W (evS F (.app o e))) := by
  have hfew : ((backTo pos (starEach [e'] X.env)).all (fun x => !x.1) && (backToKw pos (keywordEach [] X.env)).all (fun x => x.1.isSome)
      && decide ([e'].length + ([] : List Keyword).length + (if ([] : List Keyword).isEmpty then 0 else 1) < 30)) = true := by
    rw [star_all (es := [e']) (by simp [hs])]; rfl
  refine (ps_expr (pe_bm PySem.F.plainAttrs_list PySem.F.slot_list_append PySem.F.type_list_append mt_append ho (pa_cons he pa_nil (star_plain hs)) (base_plain hb) hfew hl (star_plain hs) rfl)).imp fun D σ H ⟨α, s, δ, rs, re, g⟩ => ?_
  dsimp only [evS] at g
  refine tE.firstS rs re g fun α1 s1 H1 u x l1 rs1 re1 ru g1 => ?_
  have hx : isLstC x s1 = true := by
    cases q : isLstC x s1 with
    | true => rfl
    | false => rw [q, if_neg Bool.false_ne_true] at g1; exact g1.elim
  rw [hx, if_pos rfl] at g1
  refine ⟨?_, tE.firstS rs1 re1 g1 fun α2 s2 H2 v d l2 rs2 re2 rv g2 => ?_⟩
  · unfold isLstC at hx
    split at hx
    · rename_i j
      split at hx
      · rename_i xs q
        obtain ⟨vs, e1, rl⟩ := rs1.cell j _ q
        cases ru with | cell h1 h2 => rw [h2 (by rw [q]; simp)]; exact .inl ⟨rfl, vs, .inl (.inl e1)⟩
      · cases hx
    · cases hx
  · unfold appD at g2
    split at g2
    · rename_i j
      split at g2
      · rename_i xs q
        split at g2
        · rename_i hz
          obtain ⟨vs, e1, rl⟩ := rs2.cell j _ q
          have hj : s2.m j ≠ none := by rw [q]; simp
          have hu : u = .ref (α2 j) := by cases ru.mono l2 with | cell h1 h2 => exact h2 hj
          have l : Le α2 s2 H2 α2 (s2.set j (.lst (xs ++ [d]))) (upd H2 (α2 j) (.lst (vs ++ [v]))) := Le.write rs2 hj
          refine ⟨α2 j, vs, v, hu, rfl, e1, by rw [rl.length]; exact hz, ?_⟩
          exact g2 _ _ σ l (rs2.write hj ⟨_, upd_same, (rl.app (.cons rv .nil)).mono l⟩) (re2.mono l)
        · exact g2.elim
      · exact g2.elim
    · exact g2.elim
theorem snd_expr {e : E} {e' : Expr} {pos : Pos} (hc : notComp e' = true) (he : PE X e' (tE c W (evE F e))) : PS X (.Expr e' pos) (tS c W (evS F (.expr e))) :=
  (ps_expr he (notComp_ok hc)).imp fun D σ H ⟨α, s, δ, rs, re, g⟩ => by
    dsimp only [evS] at g
    exact tE.firstS rs re g fun α1 s1 H1 u x l1 rs1 re1 ru g1 => g1.nxHere rs1 re1
theorem snd_ret {e : E} {e' : Expr} {pos : Pos} (he : PE X e' (tE c W (evE F e))) : PS X (.Return (some e') pos) (tS c W (evS F (.ret e))) :=
  (ps_ret he).imp fun D σ H ⟨α, s, δ, rs, re, g⟩ => by
    dsimp only [evS] at g
    exact tE.firstS rs re g fun α1 s1 H1 u x l1 rs1 re1 ru g1 => g1 α1 H1 u rs1.le rs1 ru
theorem snd_retF {i : Nat} {x : Str} {p pos : Pos} (hN : X.N[i]? = some x) (hv : Vis X.env.scope x) (hd : okName x = true) : PS X (.Return (some (.Name x p)) pos) (tS c W (evS F (.retF i))) :=
  (ps_lockRet (ps_ret (pe_var (pos := p) hN hv (okName_ok hd).1 (okName_ok hd).2.1))).imp fun D σ H ⟨α, s, δ, rs, re, g⟩ => by
    dsimp only [evS] at g
    unfold getV at g
    split at g
    · rename_i d hd
      obtain ⟨v, e, r⟩ := re.get i d hd
      refine ⟨v, e, ?_⟩
      have g2 : GdS c W α s H D (frzD d s) := g
      clear g
      cases d with
      | cell j =>
        have g := g2
        unfold frzD at g
        dsimp only at g
        split at g
        · rename_i xs q
          obtain ⟨vs, e1, rl⟩ := rs.cell j _ q
          have hj : s.m j ≠ none := by rw [q]; simp
          have hv : v = .ref (α j) := by cases r with | cell h1 h2 => exact h2 hj
          subst hv
          refine .inl (g α H _ (Le.del rs) rs.del (.lst e1 (fun a ha z => ?_) (rs.fr j hj) (rl.mono (Le.del rs))))
          obtain ⟨n1, n2⟩ := Sto.del_live ha
          exact n1 (rs.inj a j n2 hj z)
        · rename_i kvs q
          obtain ⟨vs, e1, rl⟩ := rs.cell j _ q
          have hj : s.m j ≠ none := by rw [q]; simp
          have hv : v = .ref (α j) := by cases r with | cell h1 h2 => exact h2 hj
          subst hv
          refine .inr ⟨α j, _, rfl, e1, True.intro, fun od => ?_⟩
          have l1 : Le α s H α (s.set j (.dct kvs)) (upd H (α j) (.frz od (.dK vs))) := Le.write rs hj
          have l : Le α s H α (s.del j) (upd H (α j) (.frz od (.dK vs))) := ⟨Nat.le_refl _, fun i _ h => ⟨(Sto.del_live h).2, rfl⟩, fun i h1 h2 => absurd (rs.lt i (Sto.del_live h2).2) (Nat.not_lt.mpr h1), l1.trk, l1.ext⟩
          refine g α _ (.ref (α j)) l ?_ (.dks upd_same rl.keys)
          exact ⟨fun a b h1 h2 => rs.inj a b (Sto.del_live h1).2 (Sto.del_live h2).2, fun a h => rs.lt a (Sto.del_live h).2, fun a y h => by
            rw [Sto.del_m] at h
            by_cases e : a = j
            · rw [if_pos e] at h; cases h
            · rw [if_neg e] at h
              exact (rs.cell a y h).step l (upd_ne fun z => e (rs.inj a j (by rw [h]; simp) hj z)), fun a h => rs.fr a (Sto.del_live h).2, fun a h => l.trk a (rs.tr a h), tabs_upd rs.tb (.inr (rs.mutC hj))⟩
        · exact g.elim
      | _ => exact g2.elim
    · exact g.elim
theorem snd_ifs {d : E} {a b : Ss} {t : Expr} {a' b' : List Stmt} {pos : Pos} (hc : PT X t (tT c W (evE F d))) (ha : PSs X a' (tS c W (evSs F a))) (hb : PSs X b' (tS c W (evSs F b))) : PS X (.If t a' b' pos) (tS c W (evS F (.ifs d a b))) :=
  (ps_if hc ha hb).imp fun D σ H ⟨α, s, δ, rs, re, g⟩ => by
    dsimp only [evS] at g
    refine tT.firstS rs re g (fun x s1 α1 H1 g1 => ?_) fun α1 s1 H1 b l1 rs1 re1 g1 => ?_
    · cases x with
      | bl b => exact ⟨b, rfl⟩
      | _ => exact (show False from g1).elim
    · cases b with
      | true => rw [if_pos rfl]; exact ⟨α1, s1, δ, rs1, re1, g1⟩
      | false => rw [if_neg Bool.false_ne_true]; exact ⟨α1, s1, δ, rs1, re1, g1⟩
theorem snd_whl {d : E} {b : Ss} {t : Expr} {b' : List Stmt} {pos : Pos} (x : Sx X) (hc : PT X t (tT c W (evE F d))) (hb : PSs X b' (tS c W (evSs F b))) : PS X (.While t b' [] pos) (tS c W (evS F (.whl d b))) :=
  (ps_while x.own hc hb).imp fun D σ H ⟨α, s, δ, rs, re, g⟩ => by
    dsimp only [evS] at g
    refine ⟨fun m σ H => ∃ α s δ, Rs c α s H ∧ RepE c α s H σ δ ∧ GdS c W α s H D (whN (evE F d) (evSs F b) m δ s), ⟨turns, α, s, δ, rs, re, g⟩, ?_⟩
    rintro m σ H ⟨α, s, δ, rs, re, g⟩
    cases m with
    | zero => exact g.elim
    | succ m =>
      unfold whN at g
      refine tT.firstS rs re g (fun x s1 α1 H1 g1 => ?_) fun α1 s1 H1 b l1 rs1 re1 g1 => ?_
      · cases x with
        | bl b => exact ⟨b, rfl⟩
        | _ => exact (show False from g1).elim
      · cases b with
        | true =>
          rw [if_pos rfl]
          refine ⟨fun σ H => ∃ α s δ, Rs c α s H ∧ RepE c α s H σ δ ∧ GdS c W α s H D (whN (evE F d) (evSs F b) m δ s), fun σ' H' q => ⟨m, Nat.lt_succ_self _, q⟩, α1, s1, δ, rs1, re1, ?_⟩
          exact GdS.andThen g1 (fun σ H' α' s' δ' l' rs' re' g' => ⟨α', s', δ', rs', re', g'⟩) rfl
        | false =>
          rw [if_neg Bool.false_ne_true]
          exact GdS.nxHere rs1 re1 g1
/-- a for's turns -/
theorem for_turns {st : D → Env → Sto → SO} {b : Env → Sto → SO} {g : TG} {D : Ends} {σ : L2.St} {δ : Env} {α1 : Nat → Addr} {s1 : Sto} {H1 : Hp} {xs : List MP.D} {vs : List V} {J : It}
    (rs1 : Rs c α1 s1 H1) (re1 : RepE c α1 s1 H1 σ δ) (rl1 : RepL c α1 s1 H1 vs xs) (hJ : ∀ α'' s'' H'', Le α1 s1 H1 α'' s'' H'' → WkOk J vs H'')
    (hr : GdS c W α1 s1 H1 D (forN st b xs δ s1))
    (hg : ∀ (D' : Ends) (α : Nat → Addr) (s : Sto) (H : Hp) (σ : L2.St) (δ : Env) (v : V) (d : MP.D), Rs c α s H → RepE c α s H σ δ → Rep c α s H v d → GdS c W α s H D' (st d δ s) → g v σ H D'.nx) :
    ∃ W' : Nat → Nat → L2.St → Hp → Prop, (∃ m, W' 0 m σ H1) ∧ ∀ i m σ H, W' i m σ H →
      (J.stop i H ∧ D.nx σ H) ∨ (J.go i H ∧ ∃ N : L2.St → Hp → Prop, (∀ σ' H', N σ' H' → ∃ m', m' < m ∧ W' (i + 1) m' σ' H') ∧ ∀ x H', J.yld i H x H' → g x σ H' fun σ2 H2 => tS c W b { D with nx := N, ct := N, bk := D.nx } σ2 H2) := by
  let Inv0 : Nat → L2.St → Hp → Prop := fun j σ H' => j ≤ vs.length ∧ ∃ α' s' δ', Le α1 s1 H1 α' s' H' ∧ Rs c α' s' H' ∧ RepE c α' s' H' σ δ' ∧ RepL c α' s' H' vs xs ∧ GdS c W α' s' H' D (forN st b (xs.drop j) δ' s')
  have hlen := rl1.length
  refine ⟨fun j m σ H' => m = vs.length - j ∧ Inv0 j σ H', ⟨_, rfl, Nat.zero_le _, α1, s1, δ, rs1.le, rs1, re1, rl1, by rw [List.drop_zero]; exact hr⟩, ?_⟩
  rintro j m σ H' ⟨rfl, hj, α', s', δ', l, rs, re, rl, run⟩
  have hw := hJ _ _ _ l
  by_cases hlt : j < vs.length
  · have hx : j < xs.length := by rw [← hlen]; exact hlt
    obtain ⟨go, yld⟩ := hw.1 j vs[j] (List.getElem?_eq_getElem hlt)
    refine .inr ⟨go, Inv0 (j + 1), fun σ2 H2 q => ⟨vs.length - (j + 1), by omega, rfl, q⟩, fun x H2 y => ?_⟩
    obtain ⟨rfl, rfl⟩ := yld x H2 y
    rw [List.drop_eq_getElem_cons hx] at run
    unfold forN at run
    have rx : Rep c α' s' H2 vs[j] xs[j] := by
      obtain ⟨v, e1, r⟩ := rl.get (List.getElem?_eq_getElem hx)
      rw [List.getElem?_eq_getElem hlt] at e1
      cases e1; exact r
    have h1 : GdS c W α' s' H2 { D with nx := Inv0 (j + 1), ct := Inv0 (j + 1), bk := D.nx } ((st xs[j] δ' s').andThen b) :=
      GdS.andThen run (fun σ3 H3 α3 s3 δ3 l3 rs3 re3 g3 => ⟨hlt, α3, s3, δ3, l.trans l3, rs3, re3, rl.mono l3, g3⟩) rfl
    exact hg { nx := fun σ2 H2 => tS c W b { D with nx := Inv0 (j + 1), ct := Inv0 (j + 1), bk := D.nx } σ2 H2, rt := D.rt } _ _ _ _ _ _ _ rs re rx (GdS.andThen h1 (fun σ3 H3 α3 s3 δ3 l3 rs3 re3 g3 => ⟨α3, s3, δ3, rs3, re3, g3⟩) rfl)
  · have e : j = vs.length := by omega
    subst e
    refine .inl ⟨hw.2, ?_⟩
    rw [hlen, List.drop_length] at run
    unfold forN at run
    exact run.nxHere rs re
theorem snd_for {st : D → Env → Sto → SO} {src : MP.W} {b : Ss} {g : TG} {t it : Expr} {b' : List Stmt} {pos : Pos} (w : Wd X c F G k) (x : Sx X) (hs : notSet it = true) (hi : PI X t it (tW c W (evW F src))) (hpg : PG X t g) (hb : PSs X b' (tS c W (evSs F b)))
    (hg : ∀ (D' : Ends) (α : Nat → Addr) (s : Sto) (H : Hp) (σ : L2.St) (δ : Env) (v : V) (d : MP.D), Rs c α s H → RepE c α s H σ δ → Rep c α s H v d → GdS c W α s H D' (st d δ s) → g v σ H D'.nx) :
    PS X (.For t it b' [] pos) (tS c W fun δ s => thenS (evW F src δ s) δ fun xs s1 => forN st (evSs F b) xs δ s1) :=
  (ps_for x.own w.calm hi hpg hb (notSet_ok hs)).imp fun D σ H ⟨α, s, δ, rs, re, g⟩ =>
    ⟨α, s, δ, rs, re, (g.thenG rs re).imp1 fun α1 s1 H1 xs l1 rs1 ⟨l1', re1, g1⟩ J vs hJ rl => for_turns rs1 re1 rl hJ g1 hg⟩
theorem snd_forC {st : D → Env → Sto → SO} {e : E} {b : Ss} {g : TG} {t it : Expr} {b' : List Stmt} {pos : Pos} (w : Wd X c F G k) (x : Sx X) (hs : notSet it = true) (he : PE X it (tE c W (evE F e))) (hpg : PG X t g) (hb : PSs X b' (tS c W (evSs F b)))
    (hg : ∀ (D' : Ends) (α : Nat → Addr) (s : Sto) (H : Hp) (σ : L2.St) (δ : Env) (v : V) (d : MP.D), Rs c α s H → RepE c α s H σ δ → Rep c α s H v d → GdS c W α s H D' (st d δ s) → g v σ H D'.nx) :
    PS X (.For t it b' [] pos) (tS c W fun δ s => thenS (evE F e δ s) δ fun d s1 => forCD st (evSs F b) d δ s1) :=
  (ps_for x.own w.calm (pi_seq he) hpg hb (notSet_ok hs)).imp fun D σ H ⟨α, s, δ, rs, re, g0⟩ => by
    refine tE.firstS rs re g0 fun α1 s1 H1 v d l1 rs1 re1 rv g1 => ?_
    cases d with
    | cell i =>
      cases q : s1.m i with
      | none => simp only [forCD, q] at g1; exact g1.elim
      | some y =>
        cases y with
        | ins C fs => simp only [forCD, q] at g1; exact g1.elim
        | dct kvs => simp only [forCD, q] at g1; exact g1.elim
        | lst xs =>
          simp only [forCD, q] at g1
          have hi : s1.m i ≠ none := by rw [q]; simp
          have hlt := rs1.lt i hi
          have hv : v = .ref (α1 i) := by cases rv with | cell h1 h2 => exact h2 hi
          subst hv
          obtain ⟨vs0, e0, _⟩ := rs1.cell i _ q
          refine ⟨_, rfl, .inl ⟨⟨vs0, .of e0⟩, ?_⟩⟩
          let Inv0 : Nat → L2.St → Hp → Prop := fun j σ H' => j ≤ xs.length ∧ ∃ α' s' δ', Le α1 s1 H1 α' s' H' ∧ Rs c α' s' H' ∧ RepE c α' s' H' σ δ' ∧ GdS c W α' s' H' D (forCN i xs st (evSs F b) (xs.drop j) δ' s')
          refine ⟨fun j m σ H' => m = xs.length - j ∧ Inv0 j σ H', ⟨_, rfl, Nat.zero_le _, α1, s1, δ, rs1.le, rs1, re1, by rw [List.drop_zero]; exact g1⟩, ?_⟩
          rintro j m σ H' ⟨rfl, hj, α', s', δ', l, rs, re, run⟩
          by_cases hlt2 : j < xs.length
          · rw [List.drop_eq_getElem_cons hlt2] at run
            unfold forCN at run
            split at run
            · rename_i hh
              have q' := holds_eq hh
              obtain ⟨_, ea⟩ := l.old i hlt (by rw [q']; simp)
              obtain ⟨vs, e1, rl⟩ := rs.cell i _ q'
              rw [ea] at e1
              have hlen := rl.length
              have hx : j < vs.length := by rw [hlen]; exact hlt2
              have gx : vs[j]? = some vs[j] := List.getElem?_eq_getElem hx
              refine .inr ⟨⟨vs, vs[j], .of e1, gx⟩, Inv0 (j + 1), fun σ2 H2 q => ⟨xs.length - (j + 1), by omega, rfl, q⟩, fun x H2 y => ?_⟩
              have y1 : H2 = H' := y.1
              subst y1
              have y2 : x = vs[j] := by
                have z := y.2 vs (.of e1)
                rw [gx] at z; exact (Option.some.inj z).symm
              subst y2
              have rx : Rep c α' s' H2 vs[j] xs[j] := by
                obtain ⟨v, e1, r⟩ := rl.get (List.getElem?_eq_getElem hlt2)
                rw [gx] at e1
                cases e1; exact r
              have h1 : GdS c W α' s' H2 { D with nx := Inv0 (j + 1), ct := Inv0 (j + 1), bk := D.nx } ((st xs[j] δ' s').andThen (evSs F b)) :=
                GdS.andThen run (fun σ3 H3 α3 s3 δ3 l3 rs3 re3 g3 => ⟨hlt2, α3, s3, δ3, l.trans l3, rs3, re3, g3⟩) rfl
              exact hg { nx := fun σ2 H2 => tS c W (evSs F b) { D with nx := Inv0 (j + 1), ct := Inv0 (j + 1), bk := D.nx } σ2 H2, rt := D.rt } _ _ _ _ _ _ _ rs re rx (GdS.andThen h1 (fun σ3 H3 α3 s3 δ3 l3 rs3 re3 g3 => ⟨α3, s3, δ3, rs3, re3, g3⟩) rfl)
            · exact run.elim
          · have e : j = xs.length := by omega
            subst e
            rw [List.drop_length] at run
            unfold forCN at run
            split at run
            · rename_i hh
              have q' := holds_eq hh
              obtain ⟨_, ea⟩ := l.old i hlt (by rw [q']; simp)
              obtain ⟨vs, e1, rl⟩ := rs.cell i _ q'
              rw [ea] at e1
              have hlen := rl.length
              exact .inl ⟨⟨vs, .of e1, by omega⟩, run.nxHere rs re⟩
            · exact run.elim
    | _ => exact (show False from g1).elim
theorem vMsg_ok {sc : Scope} {C : Str} {e : Expr} (h : vMsg sc G C e = true) : ∃ p m j p2 pos, e = .Call (.Name C p) [.Constant (.str m) j p2] [] pos ∧ glB sc C = true ∧ C ∈ G.exs := by
  unfold vMsg at h
  split at h
  · rename_i g args hx
    obtain ⟨pos, rfl⟩ := vCall_ok hx
    split at h
    · rename_i x hy
      obtain ⟨p, rfl⟩ := vName_ok hy
      simp only [Bool.and_eq_true, decide_eq_true_eq] at h
      obtain ⟨⟨⟨rfl, h1⟩, h2⟩, h3⟩ := h
      split at h3
      · rename_i m
        split at h3
        · rename_i z hz
          obtain ⟨j, p2, rfl⟩ := vConst_ok hz
          exact ⟨_, _, _, _, _, rfl, h1, h2⟩
        · cases h3
      · cases h3
    · cases h
  · cases h
theorem snd_raise {C : Str} {e : Expr} {pos : Pos} (w : Wd X c F G k) (tk : Takes X W) (h : vMsg X.env.scope G C e = true) : PS X (.Raise (some e) none pos) (tS c W (evS F (.raise C))) := by
  obtain ⟨p, m, j, p2, pos2, rfl, h1, h2⟩ := vMsg_ok h
  obtain ⟨g1, g2⟩ := glB_ok h1
  obtain ⟨a, q1, q2, q3, q4, q5, q6⟩ := w.exs C h2
  refine (ps_raise w.calm tk (pmk_own PySem.F.excBase_ValueError q3 q2 q4 (raises_own q5 q6) g1 (okName_ok g2).1)).imp fun D σ H ⟨α, s, δ, rs, re, g⟩ => ?_
  dsimp only [evS] at g
  exact g α H σ (.ref a) none rs.le rs re ⟨⟨a, q1, rfl⟩, rfl⟩
theorem snd_slset {o lo hi e : E} {o' l' h' e' : Expr} {p2 p pos : Pos} (w : Wd X c F G k) (hc : notComp e' = true) (hn : isTupE e' = false) (ho : PE X o' (tE c W (evE F o))) (hl : PE X l' (tE c W (evE F lo))) (hh : PE X h' (tE c W (evE F hi))) (he : PE X e' (tE c W (evE F e))) :
    PS X (.Assign [.Subscript o' (.Slice (some l') (some h') none p2) p] e' pos) (tS c W (evS F (.slset o lo hi e))) :=
  (ps_asg he (pg_slset (p2 := p2) (pos := p) ho (po_some hl) (po_some hh)) (swapsSole_ok hc) (notTup_ok hn) rfl).imp fun D σ H ⟨α, s, δ, rs, re, g⟩ => by
    dsimp only [evS] at g
    refine tE.firstS rs re g fun α1 s1 H1 v d l1 rs1 re1 rv g1 => tE.firstS rs1 re1 g1 fun α2 s2 H2 u x l2 rs2 re2 ru g2 => tE.firstS rs2 re2 g2 fun α3 s3 H3 z i l3 rs3 re3 rz g3 => ?_
    cases i with
    | int i =>
      refine ⟨i, rz.intD, ?_⟩
      refine tE.firstS rs3 re3 g3 fun α4 s4 H4 z2 k l4 rs4 re4 rz2 g4 => ?_
      cases k with
      | int k =>
        refine ⟨k, rz2.intD, ?_⟩
        have g5 : GdS c W α4 s4 H4 D (optS (slsD x i k d s4) δ) := g4
        clear g4
        have g4 := g5
        clear g5
        unfold slsD at g4
        split at g4
        · rename_i j ys
          split at g4
          · rename_i xs q
            split at g4
            · rename_i h
              obtain ⟨vs, q1, rl⟩ := rs4.cell j _ q
              have hj : s4.m j ≠ none := by rw [q]; simp
              have hu : u = .ref (α4 j) := by cases (ru.mono l3).mono l4 with | cell h1 h2 => exact h2 hj
              have rv4 := ((rv.mono l2).mono l3).mono l4
              cases rv4 with
              | @lst b ws _ b1 b2 b4 rb =>
                have l : Le α4 s4 H4 α4 (s4.set j (.lst (xs.take i.toNat ++ ys ++ xs.drop k.toNat))) (upd H4 (α4 j) (.lst (vs.take i.toNat ++ ws ++ vs.drop k.toNat))) := Le.write rs4 hj
                refine ⟨α4 j, b, vs, ws, i, k, hu, rfl, rfl, rfl, q1, b1, b2 j hj, h.1, h.2.1, by rw [rl.length]; exact h.2.2.1, by rw [rl.length, rb.length]; exact h.2.2.2, ?_⟩
                exact g4 _ _ σ l (rs4.write hj ⟨_, upd_same, (((rl.take _).app rb).app (rl.drop _)).mono l⟩) (re4.mono l)
            · exact g4.elim
          · exact g4.elim
        · exact g4.elim
      | _ => exact (show False from g4).elim
    | _ => exact (show False from g3).elim
theorem zip_get {xs ys : List MP.D} {j : Nat} (h : j < (List.zipWith (fun p q => MP.D.tup [p, q]) xs ys).length) : ∃ x y, xs[j]? = some x ∧ ys[j]? = some y ∧ (List.zipWith (fun p q => MP.D.tup [p, q]) xs ys)[j] = .tup [x, y] := by
  rw [List.length_zipWith] at h
  refine ⟨xs[j]'(by omega), ys[j]'(by omega), List.getElem?_eq_getElem _, List.getElem?_eq_getElem _, ?_⟩
  simp
theorem snd_forZ {is : List Nat} {a b : E} {body : Ss} {b' : List Stmt} {ts : List Expr} {e1 e2 : Expr} {kk : Nat} {p1 p2 p3 pos : Pos} (w : Wd X c F G k) (sx : Sx X) (hg : glB X.env.scope "zip" = true) (hf : ("zip" : Str) ∈ G.blt) (hs1 : notStar e1 = true) (hs2 : notStar e2 = true) (ht : tgNames X.N X.env.scope is ts = true)
    (ha : PE X e1 (tE c W (evE F a))) (hb : PE X e2 (tE c W (evE F b))) (hB : PSs X b' (tS c W (evSs F body))) :
    PS X (.For (.Tuple ts kk p1) (.Call (.Name "zip" p2) [e1, e2] [] p3) b' [] pos) (tS c W (evS F (.forZ is a b body))) :=
  (ps_for sx.own w.calm (pi_zip (glB_ok hg).1 (w.blt _ hf) (pa_cons ha (pa_cons hb pa_nil (star_plain hs2)) (star_plain hs1)) (star_plain hs1) (star_any (es := [e2]) (by simp [hs2]))) (pg_unp sx w.calm ht) hB (fun x => rfl)).imp fun D σ H ⟨α, s, δ, rs, re, g⟩ => by
    dsimp only [evS] at g
    refine tE.firstS rs re g fun α1 s1 H1 v d1 l1 rs1 re1 rv g1 => tE.firstS rs1 re1 g1 fun α2 s2 H2 u d2 l2 rs2 re2 ru g2 => ?_
    replace rv := rv.mono l2
    split at g2
    · rename_i xs ys
      cases rv with
      | @lst a1 vs _ h1 h2 h4 rl =>
      cases ru with
      | @lst a2 us _ h1' h2' h4' rl' =>
      refine ⟨_, _, vs, us, rfl, .of h1, .of h1', ?_⟩
      have len1 := rl.length
      have len2 := rl'.length
      have at1 : ∀ {α' s' H'}, Le α2 s2 H2 α' s' H' → H' a1 = some (.lst vs) := fun l => l.ext _ _ h1 (fun _ z => nomatch z) fun _ => h2
      have at2 : ∀ {α' s' H'}, Le α2 s2 H2 α' s' H' → H' a2 = some (.lst us) := fun l => l.ext _ _ h1' (fun _ z => nomatch z) fun _ => h2'
      have hlen : (List.zipWith (fun p q => MP.D.tup [p, q]) xs ys).length = min vs.length us.length := by rw [List.length_zipWith, len1, len2]
      have hz := fun j h => zip_get (xs := xs) (ys := ys) (j := j) h
      generalize hZ : List.zipWith (fun p q => MP.D.tup [p, q]) xs ys = zs at *
      let Inv0 : Nat → L2.St → Hp → Prop := fun j σ H' => j ≤ zs.length ∧ ∃ α' s' δ', Le α2 s2 H2 α' s' H' ∧ Rs c α' s' H' ∧ RepE c α' s' H' σ δ' ∧ GdS c W α' s' H' D (forN (unpD is) (evSs F body) (zs.drop j) δ' s')
      refine ⟨fun j m σ H' => m = zs.length - j ∧ Inv0 j σ H', ⟨_, rfl, Nat.zero_le _, α2, s2, δ, rs2.le, rs2, re2, by rw [List.drop_zero]; exact g2⟩, ?_⟩
      rintro j m σ3 H' ⟨rfl, hj, α', s', δ', l, rs', re', run⟩
      by_cases hlt : j < zs.length
      · obtain ⟨dx, dy, ex, ey, ez⟩ := hz j hlt
        obtain ⟨vx, gx, rx⟩ := (rl.mono l).get ex
        obtain ⟨vy, gy, ry⟩ := (rl'.mono l).get ey
        refine .inr ⟨⟨vs, us, vx, vy, .of (at1 l), .of (at2 l), gx, gy⟩, Inv0 (j + 1), fun σ4 H4 q => ⟨zs.length - (j + 1), by omega, rfl, q⟩, fun t H4 yl => ?_⟩
        obtain ⟨p, x', y', rfl, hp, rfl, k1, k2⟩ := yl
        have z1 := k1 vs (.of (at1 l))
        rw [gx] at z1
        cases z1
        have z2 := k2 us (.of (at2 l))
        rw [gy] at z2
        cases z2
        rw [List.drop_eq_getElem_cons hlt, ez] at run
        unfold forN at run
        have l3 := Le.alloc rs' hp (o := .tup [vx, vy])
        have rs3 := rs'.alloc hp (o := .tup [vx, vy])
        have rep : Rep c α' s' (upd H' p (.tup [vx, vy])) (.ref p) (.tup [dx, dy]) := .tup (.of upd_same) (.cons (rx.mono l3) (.cons (ry.mono l3) .nil))
        have h1 : GdS c W α' s' (upd H' p (.tup [vx, vy])) { D with nx := Inv0 (j + 1), ct := Inv0 (j + 1), bk := D.nx } ((unpD is (.tup [dx, dy]) δ' s').andThen (evSs F body)) :=
          GdS.andThen (run.step l3) (fun σ5 H5 α5 s5 δ5 l5 rs5 re5 g5 => ⟨hlt, α5, s5, δ5, (l.trans l3).trans l5, rs5, re5, g5⟩) rfl
        exact gUnp_ok (D := { nx := fun σ2 H2 => tS c W (evSs F body) { D with nx := Inv0 (j + 1), ct := Inv0 (j + 1), bk := D.nx } σ2 H2, rt := D.rt }) w.eK rs3 (re'.mono l3) rep (GdS.andThen h1 (fun σ5 H5 α5 s5 δ5 l5 rs5 re5 g5 => ⟨α5, s5, δ5, rs5, re5, g5⟩) rfl)
      · have e : j = zs.length := by omega
        subst e
        refine .inl ⟨⟨vs, us, .of (at1 l), .of (at2 l), by omega⟩, ?_⟩
        rw [List.drop_length] at run
        unfold forN at run
        exact run.nxHere rs' re'
    · exact g2.elim
theorem set3 {A : Type} {l : List A} {i j : Nat} {x y z : A} : ((l.set i x).set j y).set i z = (l.set j y).set i z := by
  refine List.ext_getElem? fun m => ?_
  simp only [List.getElem?_set, List.length_set]
  split <;> split <;> rfl
theorem GdS.swap {W1 W2 : WX} {α : Nat → Addr} {s : Sto} {H : Hp} {D : Ends} {o : SO} {kx : Exn → Env → Sto → SO} (g : GdS c W1 α s H D (o.onExc kx))
    (hx : ∀ x δ s', GdS c W1 α s H D (kx x δ s') → ∀ α' H' σ C d, Le α s H α' s' H' → Rs c α' s' H' → RepE c α' s' H' σ δ → ExOk c α' s' H' x C d → W2 C d σ H') : GdS c W2 α s H D o := by
  cases o with
  | nx δ s' => exact g
  | rt d s' => exact g
  | exc x δ s' => exact hx x δ s' g
  | bad => exact g
theorem snd_tryK {C n y : Str} {i j : Nat} {subs : List (Str × Bool)} {b : Ss} {b' : List Stmt} {np p q r p1 p2 : Pos} (w : Wd X c F G k) (tk : Takes X W) (x : Sx X) (hg : glB X.env.scope C = true) (hC : (C, subs) ∈ G.tryx) (hi : X.N[i]? = some n) (hl : localB X.env.scope n = true) (hn : okName n = true) (hj : X.N[j]? = some y) (hy : locB X.env.scope y = true)
    (hb : ∀ {X' : Cx} {W' : WX}, Wd X' c F G k → Takes X' W' → Sx X' → X'.N = X.N → X'.env = X.env → PSs X' b' (tS c W' (evSs F b))) :
    PS X (.Try b' [.ExceptHandler (some (.Name C np)) (some n) [.Assign [.Name y p] (.Name n q) r] p1] [] [] p2) (tS c W (evS F (.tryK C i j subs b))) := by
  obtain ⟨g1, g2⟩ := glB_ok hg
  obtain ⟨n1, n2, n3⟩ := okName_ok g2
  obtain ⟨m1, m2, m3⟩ := okName_ok hn
  obtain ⟨Ta, e1, e2⟩ := w.tryx _ hC
  have hl2 := localB_ok hl
  refine (ps_try_keep (tb := fun W' => tS c W' (evSs F b)) (t := tAsg (tVar i) (gName j)) x.stk x.frm x.ex0 x.nd hi hl2 g1 n1 e1 tk (fun W' pn xe tk' own => ?_) fun a pn => ?_).imp fun D σ H ⟨α, s, δ, rs, re, g⟩ => ?_
  · exact hb (X' := X.tr pn xe) (w.of rfl rfl rfl rfl rfl rfl rfl rfl rfl) tk' ⟨x.nd, own, x.fn, x.kind, x.stk, x.frm, x.ex0⟩ rfl rfl
  · exact pss_one (ps_set (X := X.suite a pn) x.nd hj (locB_ok hy) (pe_var (X := X.suite a pn) hi (.inl hl2) m1 m2) rfl (.inl (x.fn _)))
  · dsimp only [evS] at g
    refine ⟨α, s, δ, rs, re, g.swap fun x δ' s' g' => ?_⟩
    intro α' H' σ' Cv d l' rs' re' eo
    have eo' := eo
    obtain ⟨⟨a', k1, k2⟩, k3⟩ := eo
    subst k2
    obtain ⟨cl, fs⟩ := x
    dsimp only [keepD] at g'
    dsimp only at k1 k3
    split at g'
    · rename_i hlk
      split at g'
      · rename_i hlt
        obtain ⟨Ca, u1, u2⟩ := e2 _ (lookup_in hlk)
        dsimp only at u1 u2 k3
        rw [k1] at u1
        cases u1
        refine ⟨true, u2, fun _ => ⟨k3, fun a ha => ?_⟩, fun z => (by cases z)⟩
        have hls : i < σ'.length := by rw [← re'.len]; exact hlt
        refine ⟨.ref a, by simp [hls], ha, ?_⟩
        have l2 := Le.alloc rs' ha (o := ExK (.ref a') a)
        have rs2 := Rs.alloc rs' ha (o := ExK (.ref a') a)
        have rx : Rep c α' s' (upd H' a (ExK (.ref a') a)) (.ref a) (.ex cl) := by
          refine .ex k1 upd_same (fun m hm z => ?_) fun z => rs'.tr a z ha
          have := rs'.mut hm
          rw [z, ha] at this
          exact this
        refine g' α' _ _ (l'.trans l2) rs2 ?_
        have := (((re'.mono l2).put (i := i) rx).put (i := j) rx).drop1 (i := i)
        rw [set3] at this
        rw [set3] at this
        rw [set3]
        exact this
      · exact g'.elim
    · rename_i hlk
      obtain ⟨Ca, u1, u2⟩ := e2 _ (lookup_in hlk)
      dsimp only at u1 u2
      rw [k1] at u1
      cases u1
      exact ⟨false, u2, fun z => (by cases z), fun _ => g' α' H' σ' _ d l' rs' re' eo'⟩
    · exact g'.elim
mutual
theorem sndS : ∀ (a : S) {X : Cx} {W : WX} {st : Stmt}, Wd X c F G k → Takes X W → Sx X → okS X.N X.env.scope G a st = true → PS X st (tS c W (evS F a))
  | .asg i e, X, W, st, w, tk, x, h => by
    unfold okS at h
    split at h
    · rename_i t e' hv
      obtain ⟨p, rfl⟩ := vAsg_ok hv
      simp only [Bool.and_eq_true] at h
      exact snd_asg w tk x h.1.1 h.1.2 h.2
    · cases h
  | .unp is e, X, W, st, w, tk, x, h => by
    unfold okS at h
    split at h
    · rename_i t e' hv
      obtain ⟨p, rfl⟩ := vAsg_ok hv
      simp only [Bool.and_eq_true] at h
      obtain ⟨h1, h⟩ := h
      split at h
      · rename_i ts ht
        obtain ⟨kk, p2, rfl⟩ := vTup_ok ht
        simp only [Bool.and_eq_true] at h
        exact snd_unp w x h1 h.1.1 h.1.2 (sndE e w tk x.nd h.2).1
      · cases h
    · cases h
  | .par i j a b, X, W, st, w, tk, x, h => by
    unfold okS at h
    split at h
    · rename_i t e' hv
      obtain ⟨p, rfl⟩ := vAsg_ok hv
      split at h
      · rename_i x1 y1 u v h1 h2
        obtain ⟨k1, p1, rfl⟩ := vTwo_ok h1
        obtain ⟨k2, p2, rfl⟩ := vTwo_ok h2
        split at h
        · rename_i xn yn hx hy
          obtain ⟨px, rfl⟩ := vName_ok hx
          obtain ⟨py, rfl⟩ := vName_ok hy
          simp only [Bool.and_eq_true, decide_eq_true_eq] at h
          obtain ⟨⟨⟨⟨⟨⟨⟨⟨⟨⟨⟨⟨c1, c2⟩, c3⟩, c4⟩, c5⟩, c6⟩, c7⟩, c8⟩, c9⟩, c10⟩, c11⟩, c12⟩, c13⟩ := h
          exact snd_par w x c1 c2 c3 (localB_ok c4) (localB_ok c5) c6 c7 c8 c9 c10 c11 (sndE a w tk x.nd c12).1 (sndE b w tk x.nd c13).1
        · cases h
      · cases h
    · cases h
  | .six o i e, X, W, st, w, tk, x, h => by
    unfold okS at h
    split at h
    · rename_i t e' hv
      obtain ⟨p, rfl⟩ := vAsg_ok hv
      simp only [Bool.and_eq_true, Bool.not_eq_true'] at h
      obtain ⟨⟨h1, h2⟩, h⟩ := h
      split at h
      · rename_i o' i' ht
        obtain ⟨p2, rfl⟩ := vSub_ok ht
        simp only [Bool.and_eq_true] at h
        obtain ⟨⟨⟨h3, h4⟩, h5⟩, h6⟩ := h
        exact snd_six w h1 h2 h3 (sndE o w tk x.nd h4).1 (sndE i w tk x.nd h5).1 (sndE e w tk x.nd h6).1
      · cases h
    · cases h
  | .six2 t o i p q, X, W, st, w, tk, x, h => by
    unfold okS at h
    split at h
    · rename_i tg e' hv
      obtain ⟨pp, rfl⟩ := vAsg_ok hv
      simp only [Bool.and_eq_true] at h
      obtain ⟨h1, h⟩ := h
      split at h
      · rename_i t1 t2 ht
        obtain ⟨kk, tp, rfl⟩ := vTup_ok ht
        simp only [Bool.and_eq_true] at h
        obtain ⟨h2, h⟩ := h
        split at h
        · rename_i o' i' p' q' e1 e2
          obtain ⟨ps1, rfl⟩ := vSub_ok e1
          obtain ⟨ps2, rfl⟩ := vSub_ok e2
          simp only [Bool.and_eq_true] at h
          obtain ⟨⟨⟨⟨⟨⟨a1, a2⟩, a3⟩, a4⟩, a5⟩, a6⟩, a7⟩ := h
          exact snd_six2 w h1 h2 a1 a2 (sndE o w tk x.nd a3).1 (sndE i w tk x.nd a4).1 (sndE p w tk x.nd a5).1 (sndE q w tk x.nd a6).1 (sndE t w tk x.nd a7).1
        · cases h
      · cases h
    · cases h
  | .sfld o f e, X, W, st, w, tk, x, h => by
    unfold okS at h
    split at h
    · rename_i t e' hv
      obtain ⟨p, rfl⟩ := vAsg_ok hv
      simp only [Bool.and_eq_true] at h
      obtain ⟨h1, h⟩ := h
      split at h
      · rename_i o' f' ht
        obtain ⟨p2, rfl⟩ := vAttr_ok ht
        simp only [Bool.and_eq_true, decide_eq_true_eq] at h
        obtain ⟨⟨⟨rfl, h3⟩, h4⟩, h5⟩ := h
        exact snd_sfld w h1 h3 (sndE o w tk x.nd h4).1 (sndE e w tk x.nd h5).1
      · cases h
    · cases h
  | .app o e, X, W, st, w, tk, x, h => by
    unfold okS at h
    split at h
    · rename_i y hv
      obtain ⟨p, rfl⟩ := vExpr_ok hv
      split at h
      · rename_i ob m args ln hm
        obtain ⟨ap, pos, rfl, rfl⟩ := vMeth_ok hm
        simp only [Bool.and_eq_true, decide_eq_true_eq] at h
        obtain ⟨⟨⟨⟨rfl, h1⟩, h2⟩, h3⟩, h⟩ := h
        split at h
        · simp only [Bool.and_eq_true] at h
          exact snd_app w h2 h1 h.1 (sndE o w tk x.nd h3).1 (sndE e w tk x.nd h.2).1
        · cases h
      · cases h
    · cases h
  | .expr e, X, W, st, w, tk, x, h => by
    unfold okS at h
    split at h
    · rename_i y hv
      obtain ⟨p, rfl⟩ := vExpr_ok hv
      simp only [Bool.and_eq_true] at h
      exact snd_expr h.1 (sndE e w tk x.nd h.2).1
    · cases h
  | .ret e, X, W, st, w, tk, x, h => by
    unfold okS at h
    split at h
    · rename_i y hv
      obtain ⟨p, rfl⟩ := vRet_ok hv
      exact snd_ret (sndE e w tk x.nd h).1
    · cases h
  | .retF i, X, W, st, w, tk, x, h => by
    unfold okS at h
    split at h
    · rename_i y hv
      obtain ⟨p, rfl⟩ := vRet_ok hv
      split at h
      · rename_i z hz
        obtain ⟨p2, rfl⟩ := vName_ok hz
        simp only [Bool.and_eq_true, decide_eq_true_eq] at h
        exact snd_retF h.1.1 (visB_ok h.1.2) h.2
      · cases h
    · cases h
  | .retN, X, W, st, w, tk, x, h => by
    unfold okS at h
    split at h
    · rename_i hv
      obtain ⟨p, rfl⟩ := vRet_ok hv
      exact ps_retN.imp fun D σ H ⟨α, s, δ, rs, re, g⟩ => by
        dsimp only [evS] at g
        exact g α H .non rs.le rs .non
    · cases h
  | .pass, X, W, st, w, tk, x, h => by
    unfold okS at h
    obtain ⟨p, rfl⟩ := vPass_ok h
    exact ps_pass.imp fun D σ H ⟨α, s, δ, rs, re, g⟩ => by
      dsimp only [evS] at g
      exact g.nxHere rs re
  | .ifs d a b, X, W, st, w, tk, x, h => by
    unfold okS at h
    split at h
    · rename_i c' a' b' hv
      obtain ⟨p, rfl⟩ := vIfS_ok hv
      simp only [Bool.and_eq_true] at h
      obtain ⟨⟨⟨h0, h1⟩, h2⟩, h3⟩ := h
      exact snd_ifs ((sndE d w tk x.nd h1).2 h0) (sndSs a w tk x h2) (sndSs b w tk x h3)
    · cases h
  | .whl d b, X, W, st, w, tk, x, h => by
    unfold okS at h
    split at h
    · rename_i c' b' hv
      obtain ⟨p, rfl⟩ := vWhl_ok hv
      simp only [Bool.and_eq_true] at h
      obtain ⟨⟨h0, h1⟩, h2⟩ := h
      exact snd_whl x ((sndE d w tk x.nd h1).2 h0) (sndSs b w tk x h2)
    · cases h
  | .for1 i src b, X, W, st, w, tk, x, h => by
    unfold okS at h
    split at h
    · rename_i t it b' hv
      obtain ⟨p, rfl⟩ := vFor_ok hv
      simp only [Bool.and_eq_true] at h
      obtain ⟨⟨⟨h0, h1⟩, h2⟩, h3⟩ := h
      exact snd_for (st := set1 i) w x h1 (sndW src w tk x.nd h2) (tgName_ok x h0) (sndSs b w tk x h3) fun D' α s H σ δ v d rs re r g => by
        unfold set1 at g
        exact g.nxHere rs (re.put r)
    · cases h
  | .forT is src b, X, W, st, w, tk, x, h => by
    unfold okS at h
    split at h
    · rename_i t it b' hv
      obtain ⟨p, rfl⟩ := vFor_ok hv
      simp only [Bool.and_eq_true] at h
      obtain ⟨⟨⟨h1, h2⟩, h3⟩, h⟩ := h
      split at h
      · rename_i ts ht
        obtain ⟨kk, p2, rfl⟩ := vTup_ok ht
        exact snd_for (st := unpD is) w x h1 (sndW src w tk x.nd h2) (pg_unp x w.calm h) (sndSs b w tk x h3) fun D' α s H σ δ v d rs re r g => gUnp_ok w.eK rs re r g
      · cases h
    · cases h
  | .forC1 i e b, X, W, st, w, tk, x, h => by
    unfold okS at h
    split at h
    · rename_i t it b' hv
      obtain ⟨p, rfl⟩ := vFor_ok hv
      simp only [Bool.and_eq_true] at h
      obtain ⟨⟨⟨h0, h1⟩, h2⟩, h3⟩ := h
      exact snd_forC (st := set1 i) w x h1 (sndE e w tk x.nd h2).1 (tgName_ok x h0) (sndSs b w tk x h3) fun D' α s H σ δ v d rs re r g => by
        unfold set1 at g
        exact g.nxHere rs (re.put r)
    · cases h
  | .forCT is e b, X, W, st, w, tk, x, h => by
    unfold okS at h
    split at h
    · rename_i t it b' hv
      obtain ⟨p, rfl⟩ := vFor_ok hv
      simp only [Bool.and_eq_true] at h
      obtain ⟨⟨⟨h1, h2⟩, h3⟩, h⟩ := h
      split at h
      · rename_i ts ht
        obtain ⟨kk, p2, rfl⟩ := vTup_ok ht
        exact snd_forC (st := unpD is) w x h1 (sndE e w tk x.nd h2).1 (pg_unp x w.calm h) (sndSs b w tk x h3) fun D' α s H σ δ v d rs re r g => gUnp_ok w.eK rs re r g
      · cases h
    · cases h
  | .raise C, X, W, st, w, tk, x, h => by
    unfold okS at h
    split at h
    · rename_i e hv
      obtain ⟨p, rfl⟩ := vRaise_ok hv
      exact snd_raise w tk h
    · cases h
  | .slset o lo hi e, X, W, st, w, tk, x, h => by
    unfold okS at h
    split at h
    · rename_i t e' hv
      obtain ⟨p, rfl⟩ := vAsg_ok hv
      simp only [Bool.and_eq_true, Bool.not_eq_true'] at h
      obtain ⟨⟨h1, h2⟩, h⟩ := h
      split at h
      · rename_i o' y ht
        obtain ⟨p2, rfl⟩ := vSub_ok ht
        split at h
        · rename_i l' h' hs
          obtain ⟨p3, rfl⟩ := vSl_ok hs
          simp only [Bool.and_eq_true] at h
          obtain ⟨⟨⟨k1, k2⟩, k3⟩, k4⟩ := h
          exact snd_slset w h1 h2 (sndE o w tk x.nd k1).1 (sndE lo w tk x.nd k2).1 (sndE hi w tk x.nd k3).1 (sndE e w tk x.nd k4).1
        · cases h
      · cases h
    · cases h
  | .forZ is x y b, X, W, st, w, tk, sx, h => by
    unfold okS at h
    split at h
    · rename_i t it b' hv
      obtain ⟨p, rfl⟩ := vFor_ok hv
      simp only [Bool.and_eq_true] at h
      obtain ⟨h0, h⟩ := h
      split at h
      · rename_i ts g args e1 e2
        obtain ⟨kk, p1, rfl⟩ := vTup_ok e1
        obtain ⟨p3, rfl⟩ := vCall_ok e2
        simp only [Bool.and_eq_true] at h
        obtain ⟨h1, h⟩ := h
        split at h
        · rename_i z hz
          obtain ⟨p2, rfl⟩ := vName_ok hz
          simp only [Bool.and_eq_true, decide_eq_true_eq] at h
          obtain ⟨⟨⟨rfl, h2⟩, h3⟩, h⟩ := h
          split at h
          · simp only [Bool.and_eq_true] at h
            obtain ⟨⟨⟨k1, k2⟩, k3⟩, k4⟩ := h
            exact snd_forZ w sx h2 h3 k1 k2 h1 (sndE x w tk sx.nd k3).1 (sndE y w tk sx.nd k4).1 (sndSs b w tk sx h0)
          · cases h
        · cases h
      · cases h
    · cases h
  | .tryK C i j subs b, X, W, st, w, tk, x, h => by
    unfold okS at h
    split at h
    · rename_i b' t n u hv
      obtain ⟨p1, p2, rfl⟩ := vTry_ok hv
      split at h
      · rename_i y hy
        obtain ⟨np, rfl⟩ := vName_ok hy
        simp only [Bool.and_eq_true, decide_eq_true_eq] at h
        obtain ⟨⟨⟨⟨⟨⟨⟨rfl, h1⟩, h2⟩, h3⟩, h4⟩, h5⟩, h6⟩, h7⟩ := h
        obtain ⟨y, p, q, r, rfl, k1, k2⟩ := vKeep_ok h6
        refine snd_tryK w tk x h1 h2 h3 h4 h5 k1 k2 fun {X'} {W'} w' tk' x' eN eE => sndSs b w' tk' x' ?_
        rw [eN, eE]
        exact h7
      · cases h
    · cases h
theorem sndSs : ∀ (a : Ss) {X : Cx} {W : WX} {l : List Stmt}, Wd X c F G k → Takes X W → Sx X → okSs X.N X.env.scope G a l = true → PSs X l (tS c W (evSs F a))
  | .nil, X, W, l, w, tk, x, h => by
    unfold okSs at h
    rw [List.isEmpty_iff] at h
    subst h
    exact pss_nil.imp fun D σ H ⟨α, s, δ, rs, re, g⟩ => by
      dsimp only [evSs] at g
      exact g.nxHere rs re
  | .cons a r, X, W, l, w, tk, x, h => by
    unfold okSs at h
    split at h
    · rename_i st l
      simp only [Bool.and_eq_true] at h
      exact (pss_cons (sndS a w tk x h.1) (sndSs r w tk x h.2)).imp fun D σ H ⟨α, s, δ, rs, re, g⟩ => by
        dsimp only [evSs] at g
        exact ⟨α, s, δ, rs, re, GdS.andThen g (fun σ3 H3 α3 s3 δ3 l3 rs3 re3 g3 => ⟨α3, s3, δ3, rs3, re3, g3⟩) rfl⟩
    · cases h
end
end
end MP
/-! MP13: the table of defs, the whole program's meaning, the law's head. -/
namespace MP
open PySem PySem.Spec PyProof.Rows L2 LamX NdefX

structure Def where
  ps : Nat
  nd : Nat
  N : List Str
  b : Ss
def envOf (d : Def) (xs : List D) : Env := xs.map some ++ List.replicate (d.N.length - xs.length) none
def endS (o : SO) : Res D := match o with
  | .nx _ s => .ok .non s
  | .rt d s => .ok d s
  | .exc x _ s => .exc x s
  | .bad => .bad
/-- the meaning of a table of defs, at most n calls deep -/
noncomputable def runT (T : FK → Option Def) : Nat → Fn
  | 0, _, _, _ => .bad
  | n + 1, x, xs, s => match T x with
    | some d => if xs.length ≤ d.ps ∧ d.ps ≤ xs.length + d.nd then endS (evSs (runT T n) d.b (envOf d (xs ++ List.replicate (d.ps - xs.length) .non)) s) else .bad
    | none => .bad

theorem RepE.start {c : Cn} {α : Nat → Addr} {s : Sto} {H : Hp} {d : Def} {vs : List V} {ds : List D} (r : RepL c α s H vs ds) : RepE c α s H (L2.start d.N vs) (envOf d ds) := by
  refine ⟨?_, fun i x e => ?_⟩
  · unfold envOf L2.start
    simp [r.length]
  · unfold envOf at e
    unfold L2.start
    by_cases hi : i < ds.length
    · rw [List.getElem?_append_left (by simpa using hi)] at e
      rw [List.getElem?_append_left (by simpa [r.length] using hi)]
      rw [List.getElem?_map] at e ⊢
      cases q : ds[i]? with
      | none => rw [q] at e; cases e
      | some y =>
        rw [q] at e
        cases e
        obtain ⟨v, e1, e2⟩ := r.get q
        exact ⟨v, by rw [e1]; rfl, e2⟩
    · rw [List.getElem?_append_right (by simpa using hi)] at e
      rw [List.getElem?_replicate] at e
      split at e <;> cases e

/-- a def's facts, behind the top -/
structure EntF (K : PySem.W.Frag) (G : Gs) (tb : List (Addr × Addr × Str)) (d : Def) (f : Addr) (fd : FuncData) : Prop where
  ex : ∃ (name qual : Str) (params : Arguments) (body : List Stmt) (scope : Scope) (dV kV doc pm cdv ct oc : Value) (an od : Option Addr) (osl : Array (Option Value)),
    fd = PySem.W.fnOf name qual params body scope dV kV doc pm an cdv ct ∧ K.lookup f = some ⟨oc, od, .func fd, osl⟩ ∧ PySem.W.codeIn K cdv qual = true ∧ FnScope d.N (d.N.take d.ps) scope ∧
    ∃ lm : Bool, okSs d.N scope { G with lm := lm } d.b body = true ∧ (lm = true → ∃ cd P, cdv = .ref cd ∧ (cd, P, (qual ++ ".<locals>.") ++ "<lambda>") ∈ tb)
  bd : ∀ m, m ≤ d.nd → Binds K fd (d.N.take d.ps) (List.replicate m Value.none)
  kp : PySem.W.keepIn K (.ref f) = true
  len : d.ps ≤ d.N.length
structure Wo (K : PySem.W.Frag) (mg : Str → Option Value) (exA : Str → Option Addr) (fnA : FK → Option Addr) (clA : Str → Option Addr) (G : Gs) (tb : List (Addr × Addr × Str)) (T : FK → Option Def) : Prop where
  run : ∀ x a, fnA x = some a → ∃ d fd, T x = some d ∧ EntF K G tb d a fd
  live : ∀ C m d, T (.m C m) = some d → ∃ a, fnA (.m C m) = some a
  nd : (tb.map (·.2.1)).Nodup
  lams : ∀ x params body scope, G.okl x params body scope = true → ∃ ps e, T (.f x) = some ⟨ps.length, 0, ps, .cons (.ret e) .nil⟩ ∧ NScope ps ps [] scope ∧
    (∀ (q : Str) (cc : Addr) (m t : Value) (us : List Value), us.length = ps.length → bindArgs (PySem.W.kla_fn "<lambda>" q params body scope [] m (.ref cc) t) ⟨us, []⟩ = pure (ps.zip us)) ∧
    params.defaults = [] ∧ params.kw_defaults = [] ∧ okE ps scope G.inl e body = true
  fns : ∀ x ∈ G.fns, ∃ a, fnA (.f x) = some a ∧ mg x = some (.ref a)
  cls : ∀ C ∈ G.cls, ∃ a f, clA C = some a ∧ mg C = some (.ref a) ∧ fnA (.m C "__init__") = some f ∧ Mk K a f
  inst : ∀ C a, clA C = some a → Cls K a ∧ (∀ f ∈ G.flds, NoAttr K a f) ∧ ∀ m f, fnA (.m C m) = some f → Meth K a m f
  cons : ∀ p ∈ G.cons, ∃ t, mg p.1 = some (.int p.2 t)
  blt : ∀ x ∈ G.blt, mg x = none
  exs : ∀ C ∈ G.exs, ∃ a, exA C = some a ∧ mg C = some (.ref a) ∧ PySem.W.excIn K a [.type "ValueError", .type "Exception", .type "BaseException", .type "object"] "ValueError.__new__" = true ∧
    PySem.W.keepIn K (.ref a) = true ∧ PySem.W.subIn K (.ref a) (.type "BaseException") = some true ∧ PySem.W.typeIn K (.ref a) = some (.type "type")
  isx : ∀ p ∈ G.isx, (if p.1 = "ValueError" then mg p.1 = none ∧ ∀ q ∈ p.2, ∃ Ca, exA q.1 = some Ca ∧ L2.ExcC K Ca ∧ PySem.W.kitOne K (.ref Ca) (.type "ValueError") = some q.2
    else ∃ Ta, mg p.1 = some (.ref Ta) ∧ ∀ q ∈ p.2, ∃ Ca, exA q.1 = some Ca ∧ L2.ExcC K Ca ∧ PySem.W.kitOne K (.ref Ca) (.ref Ta) = some q.2)
  tryx : ∀ p ∈ G.tryx, ∃ Ta, mg p.1 = some (.ref Ta) ∧ ∀ q ∈ p.2, ∃ Ca, exA q.1 = some Ca ∧ PySem.W.exmOne K (.ref Ca) (.ref Ta) = some q.2
  ist : ∀ p ∈ G.ist, ∃ Ts : List Addr, Paired (fun T a => mg T = some (.ref a)) p.1 Ts ∧ ∀ q ∈ p.2, ∃ Ca, exA q.1 = some Ca ∧ L2.ExcC K Ca ∧ PySem.W.kitAny K (.ref Ca) (Ts.map Value.ref) = some q.2
section
variable {P : Program} {w : World} {K : PySem.W.Frag} {mg : Str → Option Value} {base : Heap} {exc : Str → Option Addr} {fn : FK → Option Addr} {cls : Str → Option Addr} {G : Gs} {tb : List (Addr × Addr × Str)} {T : FK → Option Def}
theorem runT_fill {n : Nat} {x : FK} {d : Def} (hT : T x = some d) {xs : List D} {s : Sto} (h : runT T n x xs s ≠ .bad) : ∃ m, m ≤ d.nd ∧ xs.length + m = d.ps ∧ runT T n x xs s = runT T n x (xs ++ List.replicate m .non) s := by
  cases n with
  | zero => exact absurd rfl h
  | succ n =>
    unfold runT at h
    rw [hT] at h
    dsimp only at h
    by_cases hc : xs.length ≤ d.ps ∧ d.ps ≤ xs.length + d.nd
    · refine ⟨d.ps - xs.length, by omega, by omega, ?_⟩
      unfold runT
      rw [hT]
      dsimp only
      have e : (xs ++ List.replicate (d.ps - xs.length) D.non).length = d.ps := by rw [List.length_append, List.length_replicate]; omega
      rw [if_pos hc, e, if_pos ⟨Nat.le_refl _, Nat.le_add_right _ _⟩, Nat.sub_self]
      simp
    · rw [if_neg hc] at h
      exact absurd rfl h
theorem endS_gd {c : Cn} {E : XK} {α : Nat → Addr} {s : Sto} {H : Hp} {Q : VK} {o : SO} (g : Gd c α s H (PV c Q) E (endS o)) : GdS c (fun C d _ H => E C d H) α s H { nx := fun _ H' => Q .non H', rt := Q } o := by
  cases o with
  | nx δ s' => exact fun α' H' σ l rs re => g α' H' l rs .non .non
  | rt d s' => exact fun α' H' v l rs r => g α' H' l rs v r
  | exc x δ s' => exact fun α' H' σ C d l rs re e => g α' H' C d l rs e
  | bad => exact g
theorem take_len {d : Def} (h : d.ps ≤ d.N.length) : (d.N.take d.ps).length = d.ps := by rw [List.length_take]; omega
/-- the context of a run: what is known of the program -/
def cnOf (K : PySem.W.Frag) (exc : Str → Option Addr) (fn : FK → Option Addr) (cls : Str → Option Addr) (G : Gs) (tb : List (Addr × Addr × Str)) : Cn :=
  ⟨K, exc, fn, cls, [], fun x L b => L.name = "<lambda>" ∧ L.cl = [] ∧ G.okl x L.params b L.scope = true, tb.map fun t => (t.2.1, t.2.2)⟩
theorem nd_at {l : List (Addr × Addr × Str)} (nd : (l.map (·.2.1)).Nodup) {co P : Addr} {x : Str} (h : (co, P, x) ∈ l) : ∀ p ∈ l.map fun t => (t.2.1, t.2.2), p.1 = P → p.2 = x := by
  induction l with
  | nil => cases h
  | cons a r ih =>
    rw [List.map_cons, List.nodup_cons] at nd
    intro p hp e
    rw [List.map_cons] at hp
    rcases List.mem_cons.mp h with h | h
    · subst h
      rcases List.mem_cons.mp hp with hp | hp
      · subst hp; rfl
      · obtain ⟨t, ht, rfl⟩ := List.mem_map.mp hp
        exact absurd (List.mem_map.mpr ⟨t, ht, e⟩) nd.1
    · rcases List.mem_cons.mp hp with hp | hp
      · subst hp
        exact absurd (List.mem_map.mpr ⟨_, h, e.symm⟩) nd.1
      · exact ih nd.2 h p hp e
theorem Wd.inl {X : Cx} {c : Cn} {F : Fn} {G : Gs} {k : Nat} (w : Wd X c F { G with lm := false } k) : Wd X c F G.inl k :=
  ⟨w.eK, w.calm, w.room, w.run, w.live, w.lrun, fun z => (by cases z), fun x ps b sc z => (by cases z), w.fns, w.cls, w.inst, w.cons, w.blt, w.exs, w.isx, w.tryx, w.ist⟩
theorem ret_end {F : Fn} {e : E} {δ : Env} {s : Sto} : endS (evSs F (.cons (.ret e) .nil) δ s) = evE F e δ s := by
  dsimp only [evSs, evS]
  cases evE F e δ s <;> rfl
theorem startF_nil {N : List Str} {vs : List V} : startF N vs [] = L2.start N vs := by
  unfold startF L2.start
  simp
/-- what a context knows, of the table at one depth less -/
theorem wd_mk (wo : Wo K mg exc fn cls G tb T) {n : Nat} (hTB : ∀ t ∈ tb, TabB base mg t.1 t.2.1)
    (ih : ∀ (x : FK) (a : Addr) (d : Def) (fd : FuncData), fn x = some a → T x = some d → EntF K G tb d a fd → FnOk P w K mg base (L2.CX P w) (2 * n) a fd (d.N.take d.ps) (spM (cnOf K exc fn cls G tb) (runT T n) x (d.N.take d.ps).length))
    (il : ∀ x L b, (cnOf K exc fn cls G tb).lam x L b → LOk P w K mg base (cnOf K exc fn cls G tb) (runT T n) (2 * n) x L b)
    {X : Cx} {φ : List Addr} (e1 : X.prog = P) (e2 : X.w = w) (e3 : X.K = K) (e4 : X.mg = mg) (e5 : X.base = base) (calm : X.calm = true) (hr : Room (2 * n + 1) X.A) {lm : Bool}
    (hlm : lm = true → ∃ cd p, X.env.code = .ref cd ∧ (cd, p, X.env.qual ++ "<lambda>") ∈ tb) : Wd X { cnOf K exc fn cls G tb with φ := φ } (runT T n) { G with lm := lm } (2 * n) where
  eK := e3.symm
  calm := calm
  room := hr
  run := fun y b hy => by
    obtain ⟨d2, fd2, hT2, E2⟩ := wo.run y b hy
    subst e1 e2 e3 e4 e5
    refine ⟨⟨fd2, d2.N.take d2.ps, d2.nd, ih y b d2 fd2 hy hT2 E2, E2.bd, fun xs s' ne => ?_⟩, E2.kp⟩
    rw [take_len E2.len]
    exact runT_fill hT2 ne
  live := fun C m xs s' ne => by
    cases n with
    | zero => exact absurd rfl ne
    | succ n =>
      unfold runT at ne
      split at ne
      · rename_i d2 hT2; exact wo.live C m d2 hT2
      · exact absurd rfl ne
  lrun := by subst e1 e2 e3 e4 e5; exact il
  lmk := fun z => by
    obtain ⟨cd, p, h1, h2⟩ := hlm z
    subst e1 e2 e3 e4 e5
    exact ⟨cd, p, h1, hTB _ h2, List.mem_map.mpr ⟨_, h2, rfl⟩, nd_at wo.nd h2⟩
  lok := fun x ps b sc z => by
    obtain ⟨_, _, _, S, _, d1, d2, _⟩ := wo.lams x ps b sc z
    exact ⟨fun q cc => ⟨rfl, rfl, z⟩, d1, d2, fun y hy e => (by have := S.free y hy e; cases this)⟩
  fns := by subst e4; exact wo.fns
  cls := by subst e4 e3; exact wo.cls
  inst := by subst e3; exact wo.inst
  cons := by subst e4; exact wo.cons
  blt := by subst e4; exact wo.blt
  exs := by subst e4 e3; exact wo.exs
  isx := by subst e4 e3; exact wo.isx
  tryx := by subst e4 e3; exact wo.tryx
  ist := by subst e4 e3; exact wo.ist
theorem tab_ok (wo : Wo K mg exc fn cls G tb T) (hTB : ∀ t ∈ tb, TabB base mg t.1 t.2.1) : ∀ (n : Nat),
    (∀ (x : FK) (a : Addr) (d : Def) (fd : FuncData), fn x = some a → T x = some d → EntF K G tb d a fd → FnOk P w K mg base (L2.CX P w) (2 * n) a fd (d.N.take d.ps) (spM (cnOf K exc fn cls G tb) (runT T n) x (d.N.take d.ps).length)) ∧
    ∀ x L b, (cnOf K exc fn cls G tb).lam x L b → LOk P w K mg base (cnOf K exc fn cls G tb) (runT T n) (2 * n) x L b
  | 0 => by
    constructor
    · intro x a d fd hf hT e
      have no : ∀ vs H Q E, ¬ spM (cnOf K exc fn cls G tb) (runT T 0) x (d.N.take d.ps).length vs H Q E := fun vs H Q E ⟨_, _, _, _, _, _, _, h⟩ => h
      exact ⟨fun vs H Q E h => absurd h (no vs H Q E), fun A outer s H args us vs Q E _ _ _ _ h => absurd h (no vs H Q E)⟩
    · intro x L b _ A outer s H us vs a Q E _ _ _ _ _ ⟨_, _, _, _, _, _, h⟩
      exact h.elim
  | n + 1 => by
    obtain ⟨ih, il⟩ := tab_ok wo hTB n
    constructor
    · intro x a d fd hf hT e
      obtain ⟨name, qual, params, body, scope, dV, kV, doc, pm, cdv, ct, oc, an, od, osl, rfl, lk, hcd, S, lm, hok, hlm⟩ := e.ex
      refine fn_of (k := 2 * n + 1) lk hcd S (fun vs H Q E h => h.1) fun A outer s H vs Q E hr ⟨hl, φ, α, st, ds, rs, rl, g⟩ => ?_
      have wd : Wd (cxOf (L2.CX P w) P w K mg base d.N qual scope a cdv A outer s H E) { cnOf K exc fn cls G tb with φ := φ } (runT T n) { G with lm := lm } (2 * n) := wd_mk wo hTB ih il rfl rfl rfl rfl rfl rfl hr hlm
      have sx : Sx (cxOf (L2.CX P w) P w K mg base d.N qual scope a cdv A outer s H E) := ⟨S.nd, passes_of rfl, fun _ => rfl, S.kind, rfl, rfl, rfl⟩
      refine ⟨_, sndSs d.b wd (takes_of rfl rfl rfl rfl) sx hok, α, st, envOf d ds, rs, RepE.start rl, endS_gd ?_⟩
      unfold runT at g
      rw [hT] at g
      dsimp only at g
      have hds : ds.length = d.ps := by rw [← rl.length, hl, take_len e.len]
      rw [hds, if_pos ⟨Nat.le_refl _, Nat.le_add_right _ _⟩, Nat.sub_self] at g
      simpa using g
    · intro x L b ⟨hn, hcl, hk⟩ A outer s H us vs a Q E hr e0 hL hC rv ⟨φ, α, st, ds, rs, rl, g⟩
      obtain ⟨ps, e, hT, S, bd, _, _, hok⟩ := wo.lams x _ b _ hk
      unfold runT at g
      rw [hT] at g
      dsimp only at g
      by_cases hc : ds.length ≤ ps.length ∧ ps.length ≤ ds.length + 0
      · rw [if_pos hc] at g
        have hds : ds.length = ps.length := by omega
        rw [hds, Nat.sub_self, List.replicate_zero, List.append_nil, ret_end] at g
        obtain ⟨nm, q, params, bod, sc, cl, cc⟩ := L
        dsimp only at hn hcl hk S bd hok hL hC
        subst hn hcl
        refine lam_run (N := ps) (ps := ps) (fr := []) (ws := []) (k := 2 * n + 1) S (fun m t us h => bd q cc m t us h) hr e0 hL hC ⟨rfl, fun y c z => (by cases z), fun x y c z => (by cases z), fun i y z => (by cases z)⟩ rv (by rw [rl.length, hds]) fun hr2 => ?_
        have wd : Wd (ncx (L2.CX P w) P w K mg base ps ⟨"<lambda>", q, params, bod, sc, [], cc⟩ a A outer s H E) { cnOf K exc fn cls G tb with φ := φ } (runT T n) { G with lm := false } (2 * n) := wd_mk wo hTB ih il rfl rfl rfl rfl rfl rfl hr2 fun z => (by cases z)
        refine ⟨_, (sndE e wd.inl (takes_of rfl rfl rfl rfl) S.nd hok).1, α, st, _, rs, ?_, g⟩
        rw [startF_nil]
        exact RepE.start (d := ⟨ps.length, 0, ps, .cons (.ret e) .nil⟩) rl
      · rw [if_neg hc] at g
        exact g.elim
/-- what law(script) promises -/
def spScr (K : PySem.W.Frag) : Sp := fun vs H Q _ => ∃ (a : Addr) (ns : List Int), vs = [.ref a] ∧ ns.length ≤ 63 ∧
  ((∃ o, H a = some (.frz o (.lst (ns.map V.int)))) ∨ (∃ (o : Obj) (its : Array Value) (n : Nat), K.lookup a = some o ∧ o.cls = .type "list" ∧ o.dict = none ∧ o.data = .seq its n ∧ its.size ≤ sizeLine ∧ Vals (ns.map V.int) its.toList)) ∧ ∀ H', Q (.bl true) H'
def sto0 : Sto := ⟨0, fun _ => none⟩
/-- THE MATHEMATICS that is wanted of a table -/
def Law (T : FK → Option Def) (n : Nat) : Prop := ∀ ns : List Int, ns.length ≤ 63 → ∃ s, runT T n (.f "law") [.scr ns] sto0 = .ok (.bl true) s
theorem law_ok (wo : Wo K mg exc fn cls G tb T) (h0 : tb = []) {n : Nat} (L : Law T n) {a : Addr} {d : Def} {fd : FuncData} {x : Str} (hf : fn (.f "law") = some a) (hT : T (.f "law") = some d) (e : EntF K G tb d a fd) (hx : d.N.take d.ps = [x]) :
    FnOk P w K mg base (L2.CX P w) (2 * n) a fd [x] (spScr K) := by
  have h := (tab_ok (P := P) (w := w) (base := base) wo (fun t z => by rw [h0] at z; cases z) n).1 _ a d fd hf hT e
  rw [hx] at h
  refine h.imp fun vs H Q E z => ?_
  obtain ⟨b, ns, rfl, hl, hs, q⟩ := z
  have rs : Rs { cnOf K exc fn cls G tb with φ := [] } (fun _ => 0) sto0 H := ⟨fun i j h => absurd rfl h, fun i h => absurd rfl h, fun i y h => (by cases h), fun i h => absurd rfl h, fun y h => (by cases h), fun p hp => by
    have hp : p ∈ tb.map fun t => (t.2.1, t.2.2) := hp
    rw [h0] at hp; cases hp⟩
  refine ⟨rfl, [], fun _ => 0, sto0, [.scr ns], rs, .cons (.scr hs) .nil, ?_⟩
  obtain ⟨s', er⟩ := L ns hl
  rw [er]
  intro α' H' l rs' v r
  rw [r.blD]
  exact q H'
/-- the same where lambdas are made: the tables are empty at first -/
def spScrT (K : PySem.W.Frag) (cs : List (Addr × Addr)) : Sp := fun vs H Q _ => ∃ (a : Addr) (ns : List Int), vs = [.ref a] ∧ ns.length ≤ 63 ∧ SqL K H a (ns.map V.int) ∧ (∀ p ∈ cs, H p.2 = some (.tbl #[])) ∧ ∀ H', Q (.bl true) H'
theorem law_okT (wo : Wo K mg exc fn cls G tb T) {cs : List (Addr × Addr)} (hcs : tb.map (fun t => (t.1, t.2.1)) = cs) (hTB : ∀ p ∈ cs, TabB base mg p.1 p.2) {n : Nat} (L : Law T n) {a : Addr} {d : Def} {fd : FuncData} {x : Str} (hf : fn (.f "law") = some a) (hT : T (.f "law") = some d)
    (e : EntF K G tb d a fd) (hx : d.N.take d.ps = [x]) : FnOk P w K mg base (L2.CX P w) (2 * n) a fd [x] (spScrT K cs) := by
  have inT : ∀ t ∈ tb, (t.1, t.2.1) ∈ cs := fun t z => by rw [← hcs]; exact List.mem_map.mpr ⟨t, z, rfl⟩
  have h := (tab_ok (P := P) (w := w) (base := base) wo (fun t z => hTB _ (inT t z)) n).1 _ a d fd hf hT e
  rw [hx] at h
  refine h.imp fun vs H Q E z => ?_
  obtain ⟨b, ns, rfl, hl, hs, h0, q⟩ := z
  have rs : Rs { cnOf K exc fn cls G tb with φ := [] } (fun _ => 0) sto0 H := ⟨fun i j h => absurd rfl h, fun i h => absurd rfl h, fun i y h => (by cases h), fun i h => absurd rfl h, fun y h => (by cases h), fun p hp => by
    obtain ⟨t, ht, rfl⟩ := List.mem_map.mp (show p ∈ tb.map fun t => (t.2.1, t.2.2) from hp)
    exact .nil (h0 _ (inT t ht))⟩
  have rep : Rep { cnOf K exc fn cls G tb with φ := [] } (fun _ => 0) sto0 H (.ref b) (.scr ns) := by
    rcases hs with (hs | hs) | hs
    · exact .scrL hs (fun i h => absurd rfl h) (fun z => (by cases z))
    · exact .scr (.inl hs)
    · exact .scr (.inr hs)
  refine ⟨rfl, [], fun _ => 0, sto0, [.scr ns], rs, .cons rep .nil, ?_⟩
  obtain ⟨s', er⟩ := L ns hl
  rw [er]
  intro α' H' l rs' v r
  rw [r.blD]
  exact q H'
end
theorem walk {l : PySem.W.OpenLaw} {k : Nat} {x : Str} {q : Program} {loose : List Str} {XP : (Str → Option Value) → Heap → Prop} {YP : World → Heap → Prop} {d : DefRec} {K : Params → PySem.W.Frag} (hn : l.most = some 63) (hdf : d.params.defaults = []) (hr : Room k callerA)
    (hY : ∀ (w : World) (h : Heap), YP w h → (K w.params).In h)
    (F : ∀ (w : World) (mg : Str → Option Value) (fa : Addr) (h : Heap), (K w.params).In h → h.Ns mainGlobals mg → mg d.name = some (.ref fa) →
      ∃ fd : FuncData, (∀ (s : Shared) (u : Value), BindsTo s fd ⟨[u], []⟩ [(x, u)]) ∧ ∀ base : Heap, (K w.params).In base → base.Ns mainGlobals mg → FnOk l.prog w (K w.params) mg base (L2.CX l.prog w) k fa fd [x] (spScr (K w.params))) :
    PySem.W.WalkO q loose XP YP l.row.toRowW d [] (fun f vs => PySem.call f vs) :=
  L2.walk_of (n := 63) (k := k) (x := x) (CX := fun w => L2.CX l.prog w) (sp := fun w => spScr (K w.params)) hn (by decide) hdf hr hY F (fun w H a ns hl ho hS => ⟨a, ns, rfl, hl, by
    rcases hS with (h | ⟨o, h⟩) | h
    · rcases ho a with z | ⟨o, xs, z⟩
      · rw [h] at z; cases z
      · rw [h] at z; cases z
    · exact .inl ⟨o, h⟩
    · exact .inr h, fun _ => rfl⟩) fun w H s e s' z => by
    obtain ⟨_, _, _, _, _, _, _, _, _, _, _, _, z⟩ := z
    exact z.elim
end MP
/-! MP14: a table's facts, put together. -/
namespace MP
open PySem PySem.Spec PyProof.Rows L2 LamX NdefX

/-! ### rows by keys -/
def keyAt (ks : List FK) (x : FK) : Option Nat := match ks with
  | [] => none
  | k :: r => if x = k then some 0 else (keyAt r x).map (· + 1)
def getK {α : Type} (ks : List FK) (as : List α) (x : FK) : Option α := match ks, as with
  | k :: r, a :: t => if x = k then some a else getK r t x
  | _, _ => none
theorem getK_at {α : Type} : ∀ {ks : List FK} {as : List α} {x : FK} {i : Nat}, keyAt ks x = some i → getK ks as x = as[i]?
  | [], _, _, _, h => by cases h
  | k :: r, [], x, i, h => by simp [getK]
  | k :: r, a :: t, x, i, h => by
    unfold keyAt at h
    unfold getK
    by_cases e : x = k
    · rw [if_pos e] at h ⊢; cases h; rfl
    · rw [if_neg e] at h ⊢
      cases q : keyAt r x with
      | none => rw [q] at h; cases h
      | some j =>
        rw [q] at h
        cases h
        rw [getK_at q]; rfl
def getS {α : Type} (ks : List Str) (as : List α) (x : Str) : Option α := match ks, as with
  | k :: r, a :: t => if x = k then some a else getS r t x
  | _, _ => none
inductive Rows (K : PySem.W.Frag) (G : Gs) (tb : List (Addr × Addr × Str)) (clA : Str → Option Addr) : List FK → List Def → List Addr → Prop
  | rest {ks : List FK} {ds : List Def} : (∀ C m, getK ks ds (.m C m) = none) → Rows K G tb clA ks ds []
  | cons {x : FK} {d : Def} {a : Addr} {fd : FuncData} {ks : List FK} {ds : List Def} {as : List Addr} : EntF K G tb d a fd → (∀ C m, x = .m C m → ∀ b, clA C = some b → Meth K b m a) → Rows K G tb clA ks ds as → Rows K G tb clA (x :: ks) (d :: ds) (a :: as)
section
variable {K : PySem.W.Frag} {G : Gs} {tb : List (Addr × Addr × Str)} {clA : Str → Option Addr}
theorem getK_nil {α : Type} {ks : List FK} {x : FK} : getK ks ([] : List α) x = none := by cases ks <;> rfl
theorem Rows.run : ∀ {ks : List FK} {ds : List Def} {as : List Addr} {x : FK} {a : Addr}, Rows K G tb clA ks ds as → getK ks as x = some a → ∃ d fd, getK ks ds x = some d ∧ EntF K G tb d a fd ∧ ∀ C m, x = .m C m → ∀ b, clA C = some b → Meth K b m a
  | _, _, _, _, _, .rest _, h => by rw [getK_nil] at h; cases h
  | k :: ks, d :: ds, b :: as, x, a, .cons e m r, h => by
    unfold getK at h ⊢
    by_cases q : x = k
    · rw [if_pos q] at h ⊢
      cases h
      subst q
      exact ⟨_, _, rfl, e, m⟩
    · rw [if_neg q] at h ⊢
      exact r.run h
theorem Rows.live : ∀ {ks : List FK} {ds : List Def} {as : List Addr} {C x : Str} {d : Def}, Rows K G tb clA ks ds as → getK ks ds (.m C x) = some d → ∃ a, getK ks as (.m C x) = some a
  | _, _, _, _, _, _, .rest z, h => by rw [z] at h; cases h
  | k :: ks, d :: ds, b :: as, C, x, a, .cons e m r, h => by
    unfold getK at h ⊢
    by_cases q : FK.m C x = k
    · rw [if_pos q]; exact ⟨_, rfl⟩
    · rw [if_neg q] at h ⊢
      exact r.live h
end
/-! ### a row -/
section
variable {K : PySem.W.Frag} {G : Gs} {tb : List (Addr × Addr × Str)} {d : Def} {st : Stmt} {x qual : Str} {f : Addr} {oc kV doc pm cdv ct : Value} {od an : Option Addr} {osl : Array (Option Value)}
theorem ent_mk {lm : Bool} (hlm : lm = true → ∃ c P, cdv = .ref c ∧ (c, P, (qual ++ ".<locals>.") ++ "<lambda>") ∈ tb) (l : K.lookup f = some ⟨oc, od, .func (PySem.W.fnOf x qual (defArgs st) (defBody st) (defScope st) .none kV doc pm an cdv ct), osl⟩) (c : PySem.W.codeIn K cdv qual = true) (k : PySem.W.keepIn K (.ref f) = true)
    (S : FnScope d.N (d.N.take d.ps) (defScope st)) (ok : okSs d.N (defScope st) { G with lm := lm } d.b (defBody st) = true) (len : d.ps ≤ d.N.length) (nd : d.nd = 0)
    (b : ∀ us : List Value, us.length = (d.N.take d.ps).length → bindArgs (PySem.W.fnOf x qual (defArgs st) (defBody st) (defScope st) .none kV doc pm an cdv ct) ⟨us, []⟩ = pure ((d.N.take d.ps).zip us)) :
    EntF K G tb d f (PySem.W.fnOf x qual (defArgs st) (defBody st) (defScope st) .none kV doc pm an cdv ct) :=
  ⟨⟨_, _, _, _, _, _, _, _, _, _, _, _, _, _, _, rfl, l, c, S, lm, ok, hlm⟩, fun m hm => by
    rw [nd] at hm
    obtain rfl : m = 0 := Nat.le_zero.mp hm
    exact .all b, k, len⟩
/-- one default, None -/
theorem ent_mk1 {lm : Bool} (hlm : lm = true → ∃ c P, cdv = .ref c ∧ (c, P, (qual ++ ".<locals>.") ++ "<lambda>") ∈ tb) {T : Addr} {tc : Value} {td : Option Addr} {tn : Nat} {tsl : Array (Option Value)} (l : K.lookup f = some ⟨oc, od, .func (PySem.W.fnOf x qual (defArgs st) (defBody st) (defScope st) (.ref T) kV doc pm an cdv ct), osl⟩) (c : PySem.W.codeIn K cdv qual = true) (k : PySem.W.keepIn K (.ref f) = true)
    (lT : K.lookup T = some ⟨tc, td, .seq #[Value.none] tn, tsl⟩)
    (S : FnScope d.N (d.N.take d.ps) (defScope st)) (ok : okSs d.N (defScope st) { G with lm := lm } d.b (defBody st) = true) (len : d.ps ≤ d.N.length) (nd : d.nd = 1)
    (b0 : ∀ us : List Value, us.length = (d.N.take d.ps).length → ∃ g, bindArgs (PySem.W.fnOf x qual (defArgs st) (defBody st) (defScope st) (.ref T) kV doc pm an cdv ct) ⟨us, []⟩ = seqItems? (.ref T) >>= g ∧ g (some #[Value.none]) = pure ((d.N.take d.ps).zip us))
    (b1 : ∀ us : List Value, us.length + 1 = (d.N.take d.ps).length → ∃ g, bindArgs (PySem.W.fnOf x qual (defArgs st) (defBody st) (defScope st) (.ref T) kV doc pm an cdv ct) ⟨us, []⟩ = seqItems? (.ref T) >>= g ∧ g (some #[Value.none]) = pure ((d.N.take d.ps).zip (us ++ [Value.none]))) :
    EntF K G tb d f (PySem.W.fnOf x qual (defArgs st) (defBody st) (defScope st) (.ref T) kV doc pm an cdv ct) :=
  ⟨⟨_, _, _, _, _, _, _, _, _, _, _, _, _, _, _, rfl, l, c, S, lm, ok, hlm⟩, fun m hm => by
    rw [nd] at hm
    intro s us X hl
    rcases Nat.lt_or_ge m 1 with h | h
    · obtain rfl : m = 0 := by omega
      rw [List.replicate_zero, List.append_nil] at hl ⊢
      obtain ⟨g, e1, e2⟩ := b0 us hl
      refine L2.BindsTo.of_looks fun M => ?_
      rw [e1]
      exact looks_items X lT rfl (PySem.W.Looks.of_pure e2)
    · obtain rfl : m = 1 := by omega
      obtain ⟨g, e1, e2⟩ := b1 us (by rw [List.length_append] at hl; simpa using hl)
      refine L2.BindsTo.of_looks fun M => ?_
      rw [e1]
      exact looks_items X lT rfl (PySem.W.Looks.of_pure e2), k, len⟩
end
theorem fa0 {α : Type} {P : α → Prop} : ∀ x ∈ ([] : List α), P x := fun _ h => by cases h
theorem fa1 {α : Type} {P : α → Prop} {a : α} {l : List α} (h : P a) (r : ∀ x ∈ l, P x) : ∀ x ∈ a :: l, P x := List.forall_mem_cons.mpr ⟨h, r⟩
theorem getS_all {α : Type} {P : Str → α → Prop} : ∀ {ks : List Str} {as : List α}, Paired P ks as → ∀ C a, getS ks as C = some a → P C a
  | _, _, .nil, C, a, h => by cases h
  | k :: ks, b :: as, .cons h1 h2, C, a, h => by
    unfold getS at h
    by_cases e : C = k
    · rw [if_pos e] at h; cases h; subst e; exact h1
    · rw [if_neg e] at h; exact getS_all h2 C a h
/-! ### lambdas -/
def argsB (p : Arguments) (ps : List Str) : Bool := match p with
  | ⟨[], [a], none, [], [], none, []⟩ => decide (ps = [a.arg])
  | ⟨[], [a, b], none, [], [], none, []⟩ => decide (ps = [a.arg, b.arg])
  | _ => false
theorem argsB_inv1 {p : Arguments} {x : Str} (h : argsB p [x] = true) : ∃ n q, p = ⟨[], [⟨x, n, q⟩], none, [], [], none, []⟩ := by
  unfold argsB at h
  split at h
  · simp only [decide_eq_true_eq, List.cons.injEq, and_true] at h
    subst h
    rename_i a
    obtain ⟨a1, a2, a3⟩ := a
    exact ⟨a2, a3, rfl⟩
  · simp at h
  · cases h
theorem argsB_inv2 {p : Arguments} {x y : Str} (h : argsB p [x, y] = true) : ∃ n q n' q', p = ⟨[], [⟨x, n, q⟩, ⟨y, n', q'⟩], none, [], [], none, []⟩ := by
  unfold argsB at h
  split at h
  · simp at h
  · simp only [decide_eq_true_eq, List.cons.injEq, and_true] at h
    obtain ⟨rfl, rfl⟩ := h
    rename_i a b
    obtain ⟨a1, a2, a3⟩ := a
    obtain ⟨b1, b2, b3⟩ := b
    exact ⟨a2, a3, b2, b3, rfl⟩
  · cases h
theorem argsB_def {p : Arguments} {ps : List Str} (h : argsB p ps = true) : p.defaults = [] ∧ p.kw_defaults = [] := by
  unfold argsB at h
  split at h
  · exact ⟨rfl, rfl⟩
  · exact ⟨rfl, rfl⟩
  · cases h
/-- which lambda is which -/
def lamsOkl (G0 : Gs) (lams : List (Str × List Str × E)) : Str → Arguments → Expr → Scope → Bool := fun x p body scope => match lams.lookup x with
  | some (ps, e) => argsB p ps && nscB ps ps [] scope && okE ps scope G0 e body
  | none => false
theorem lams_mk {G0 : Gs} {lams : List (Str × List Str × E)} {T : FK → Option Def} (hT : ∀ p ∈ lams, T (.f p.1) = some ⟨p.2.1.length, 0, p.2.1, .cons (.ret p.2.2) .nil⟩ ∧ ∀ (pp : Arguments) (body : Expr) (scope : Scope), argsB pp p.2.1 = true → ∀ (q : Str) (cc : Addr) (m t : Value) (us : List Value), us.length = p.2.1.length → bindArgs (PySem.W.kla_fn "<lambda>" q pp body scope [] m (.ref cc) t) ⟨us, []⟩ = pure (p.2.1.zip us)) : ∀ x params body scope, lamsOkl G0 lams x params body scope = true → ∃ ps e, T (.f x) = some ⟨ps.length, 0, ps, .cons (.ret e) .nil⟩ ∧ NScope ps ps [] scope ∧
    (∀ (q : Str) (cc : Addr) (m t : Value) (us : List Value), us.length = ps.length → bindArgs (PySem.W.kla_fn "<lambda>" q params body scope [] m (.ref cc) t) ⟨us, []⟩ = pure (ps.zip us)) ∧
    params.defaults = [] ∧ params.kw_defaults = [] ∧ okE ps scope G0 e body = true := by
  intro x params body scope h
  unfold lamsOkl at h
  cases q : lams.lookup x with
  | none => rw [q] at h; cases h
  | some v =>
    obtain ⟨ps, e⟩ := v
    rw [q] at h
    simp only [Bool.and_eq_true] at h
    obtain ⟨h2, h3⟩ := argsB_def h.1.1
    obtain ⟨h4, h5⟩ := hT _ (PySem.mem_of_lookup q)
    exact ⟨ps, e, h4, nscope_by h.1.2, h5 params body scope h.1.1, h2, h3, h.2⟩
/-- the makers' code objects and their tables -/
def tabOf (K : PySem.W.Frag) (c : Addr) : Addr := match K.lookup c with
  | some ⟨_, _, .fields vs, _⟩ => (match (vs[11]? : Option Value) with | some (.ref P) => P | _ => 0)
  | _ => 0
def makerAt (K : PySem.W.Frag) (x : Str) : Addr × Addr := match PySem.W.nsIn K mainGlobals x with
  | some (some (.ref f)) => (match K.lookup f with
    | some ⟨_, _, .func fd, _⟩ => (match fd.code with | .ref c => (c, tabOf K c) | _ => (0, 0))
    | _ => (0, 0))
  | _ => (0, 0)
theorem maker_at {K : PySem.W.Frag} {x n q : Str} {f c : Addr} {oc dV kV doc pm ct : Value} {od an : Option Addr} {ps : Arguments} {b : List Stmt} {sc : Scope} {sl : Array (Option Value)} (a : PySem.W.nsIn K mainGlobals x = some (some (.ref f)))
    (l : K.lookup f = some ⟨oc, od, .func (PySem.W.fnOf n q ps b sc dV kV doc pm an (.ref c) ct), sl⟩) : makerAt K x = (c, tabOf K c) := by
  unfold makerAt
  rw [a]
  dsimp only
  rw [l]
def csM (K : PySem.W.Frag) (ms : List (Str × Str)) : List (Addr × Addr) := ms.map fun m => makerAt K m.1
def tbM (K : PySem.W.Frag) (ms : List (Str × Str)) : List (Addr × Addr × Str) := ms.map fun m => ((makerAt K m.1).1, (makerAt K m.1).2, m.2)
def chkM (K : PySem.W.Frag) (ts : List Addr) (ms : List (Str × Str)) : Bool := (ms.all fun m => (K.lookup (makerAt K m.1).2).isNone && PySem.W.codeHdIn K (makerAt K m.1).1 (makerAt K m.1).2 && ts.contains (makerAt K m.1).2) && decide ((ms.map fun m => (makerAt K m.1).2).Nodup)
theorem tbM_cs {K : PySem.W.Frag} {ms : List (Str × Str)} : (tbM K ms).map (fun t => (t.1, t.2.1)) = csM K ms := by
  unfold tbM csM
  rw [List.map_map]
  rfl
theorem tbM_nd {K : PySem.W.Frag} {ts : List Addr} {ms : List (Str × Str)} (h : chkM K ts ms = true) : ((tbM K ms).map (·.2.1)).Nodup := by
  unfold chkM at h
  simp only [Bool.and_eq_true, decide_eq_true_eq] at h
  unfold tbM
  rw [List.map_map]
  exact h.2
theorem tbM_mem {K : PySem.W.Frag} {ms : List (Str × Str)} {x q : Str} {c P : Addr} (h : makerAt K x = (c, P)) (hm : (x, q) ∈ ms) : (c, P, q) ∈ tbM K ms := List.mem_map.mpr ⟨_, hm, by dsimp only; rw [h]⟩
theorem wo_mk {K : PySem.W.Frag} {mg : Str → Option Value} {G : Gs} {ks : List FK} {ds : List Def} {as : List Addr} {cn : List Str} {ca : List Addr} {en : List Str} {ea : List Addr} {tb : List (Addr × Addr × Str)} (R : Rows K G tb (getS cn ca) ks ds as)
    (nd : (tb.map (·.2.1)).Nodup)
    (lams : ∀ x params body scope, G.okl x params body scope = true → ∃ ps e, getK ks ds (.f x) = some ⟨ps.length, 0, ps, .cons (.ret e) .nil⟩ ∧ NScope ps ps [] scope ∧
      (∀ (q : Str) (cc : Addr) (m t : Value) (us : List Value), us.length = ps.length → bindArgs (PySem.W.kla_fn "<lambda>" q params body scope [] m (.ref cc) t) ⟨us, []⟩ = pure (ps.zip us)) ∧
      params.defaults = [] ∧ params.kw_defaults = [] ∧ okE ps scope G.inl e body = true)
    (fns : ∀ x ∈ G.fns, ∃ a, getK ks as (.f x) = some a ∧ mg x = some (.ref a))
    (cls : ∀ C ∈ G.cls, ∃ a f, getS cn ca C = some a ∧ mg C = some (.ref a) ∧ getK ks as (.m C "__init__") = some f ∧ Mk K a f)
    (inst : Paired (fun _ a => Cls K a ∧ ∀ f ∈ G.flds, NoAttr K a f) cn ca)
    (cons : ∀ p ∈ G.cons, ∃ t, mg p.1 = some (.int p.2 t))
    (blt : ∀ x ∈ G.blt, mg x = none)
    (exs : ∀ C ∈ G.exs, ∃ a, getS en ea C = some a ∧ mg C = some (.ref a) ∧ PySem.W.excIn K a [.type "ValueError", .type "Exception", .type "BaseException", .type "object"] "ValueError.__new__" = true ∧
    PySem.W.keepIn K (.ref a) = true ∧ PySem.W.subIn K (.ref a) (.type "BaseException") = some true ∧ PySem.W.typeIn K (.ref a) = some (.type "type"))
    (isx : ∀ p ∈ G.isx, (if p.1 = "ValueError" then mg p.1 = none ∧ ∀ q ∈ p.2, ∃ Ca, getS en ea q.1 = some Ca ∧ L2.ExcC K Ca ∧ PySem.W.kitOne K (.ref Ca) (.type "ValueError") = some q.2
    else ∃ Ta, mg p.1 = some (.ref Ta) ∧ ∀ q ∈ p.2, ∃ Ca, getS en ea q.1 = some Ca ∧ L2.ExcC K Ca ∧ PySem.W.kitOne K (.ref Ca) (.ref Ta) = some q.2))
    (tryx : ∀ p ∈ G.tryx, ∃ Ta, mg p.1 = some (.ref Ta) ∧ ∀ q ∈ p.2, ∃ Ca, getS en ea q.1 = some Ca ∧ PySem.W.exmOne K (.ref Ca) (.ref Ta) = some q.2)
    (ist : ∀ p ∈ G.ist, ∃ Ts : List Addr, Paired (fun T a => mg T = some (.ref a)) p.1 Ts ∧ ∀ q ∈ p.2, ∃ Ca, getS en ea q.1 = some Ca ∧ L2.ExcC K Ca ∧ PySem.W.kitAny K (.ref Ca) (Ts.map Value.ref) = some q.2) :
    Wo K mg (getS en ea) (getK ks as) (getS cn ca) G tb (getK ks ds) where
  run := fun x a h => let ⟨d, fd, h1, h2, _⟩ := R.run h; ⟨d, fd, h1, h2⟩
  live := fun C m d h => R.live h
  nd := nd
  lams := lams
  fns := fns
  cls := cls
  inst := fun C a h => by
    obtain ⟨h1, h2⟩ := getS_all inst C a h
    exact ⟨h1, h2, fun m f hf => let ⟨_, _, _, _, q⟩ := R.run hf; q C m rfl a h⟩
  cons := cons
  blt := blt
  exs := exs
  isx := isx
  tryx := tryx
  ist := ist
theorem fin_ok {P : Program} {w : World} {K : PySem.W.Frag} {mg : Str → Option Value} {base : Heap} {exc : Str → Option Addr} {cls : Str → Option Addr} {G : Gs} {ks : List FK} {ds : List Def} {as : List Addr} {n i : Nat} {a : Addr} {d : Def} {fd : FuncData} {x : Str}
    {tb : List (Addr × Addr × Str)} (wo : Wo K mg exc (getK ks as) cls G tb (getK ks ds)) (h0 : tb = []) (L : Law (getK ks ds) n) (hi : keyAt ks (.f "law") = some i) (ha : as[i]? = some a) (hd : ds[i]? = some d) (e : EntF K G tb d a fd) (hx : d.N.take d.ps = [x]) : FnOk P w K mg base (L2.CX P w) (2 * n) a fd [x] (spScr K) :=
  law_ok wo h0 L (by rw [getK_at hi]; exact ha) (by rw [getK_at hi]; exact hd) e hx
theorem fin_okT {P : Program} {w : World} {K : PySem.W.Frag} {mg : Str → Option Value} {base : Heap} {exc : Str → Option Addr} {cls : Str → Option Addr} {G : Gs} {ks : List FK} {ds : List Def} {as : List Addr} {n i : Nat} {a : Addr} {d : Def} {fd : FuncData} {x : Str} {ms : List (Str × Str)}
    (wo : Wo K mg exc (getK ks as) cls G (tbM K ms) (getK ks ds)) (hTB : ∀ p ∈ csM K ms, TabB base mg p.1 p.2) (L : Law (getK ks ds) n) (hi : keyAt ks (.f "law") = some i) (ha : as[i]? = some a) (hd : ds[i]? = some d) (e : EntF K G (tbM K ms) d a fd) (hx : d.N.take d.ps = [x]) :
    FnOk P w K mg base (L2.CX P w) (2 * n) a fd [x] (spScrT K (csM K ms)) :=
  law_okT wo tbM_cs hTB L (by rw [getK_at hi]; exact ha) (by rw [getK_at hi]; exact hd) e hx
theorem walkM {l : PySem.W.OpenLaw} {k : Nat} {x : Str} {q : Program} {loose : List Str} {XP : (Str → Option Value) → Heap → Prop} {d : DefRec} {K : Params → PySem.W.Frag} {as : List Addr} {e : ∀ P, as = (K P).map (·.1)} {ts : List Addr} (ms : List (Str × Str)) (hn : l.most = some 63) (hdf : d.params.defaults = []) (hr : Room k callerA)
    (chk : ∀ P : Params, chkM (K P) ts ms = true)
    (F : ∀ (w : World) (mg : Str → Option Value) (fa : Addr) (h : Heap), (K w.params).In h → h.Ns mainGlobals mg → mg d.name = some (.ref fa) → chkM (K w.params) ts ms = true →
      ∃ fd : FuncData, (∀ (s : Shared) (u : Value), BindsTo s fd ⟨[u], []⟩ [(x, u)]) ∧ ∀ base : Heap, (K w.params).In base → base.Ns mainGlobals mg → (∀ p ∈ csM (K w.params) ms, TabB base mg p.1 p.2) → FnOk l.prog w (K w.params) mg base (L2.CX l.prog w) k fa fd [x] (spScrT (K w.params) (csM (K w.params) ms))) :
    PySem.W.WalkO q loose XP (PySem.W.kmHook K as e ts).says l.row.toRowW d [] (fun f vs => PySem.call f vs) := by
  refine LamX.walk_ofTs (n := 63) (k := k) (x := x) (CX := fun w => L2.CX l.prog w) hn (by decide) hdf hr (fun w h Y => PySem.W.km_in_of Y) (fun w mg fa h Y KX hmg hfa => ?_) fun w H s e s' z => by
    obtain ⟨_, _, _, _, _, _, _, _, _, _, _, _, z⟩ := z
    exact z.elim
  obtain ⟨fd, hb, hF⟩ := F w mg fa h KX hmg hfa (chk w.params)
  have ck : ∀ p ∈ csM (K w.params) ms, (K w.params).lookup p.2 = none ∧ PySem.W.codeHdIn (K w.params) p.1 p.2 = true ∧ p.2 ∈ ts := by
    intro p hp
    obtain ⟨m, hm, rfl⟩ := List.mem_map.mp hp
    have c := chk w.params
    unfold chkM at c
    simp only [Bool.and_eq_true, List.all_eq_true, Option.isNone_iff_eq_none, List.contains_iff_mem] at c
    obtain ⟨⟨c1, c2⟩, c3⟩ := c.1 m hm
    exact ⟨c1, c2, c3⟩
  exact ⟨fd, csM (K w.params) ms, spScrT (K w.params) (csM (K w.params) ms), fun p hp => PySem.W.km_tabs_of Y p.2 (ck p hp).2.2, fun p hp => (ck p hp).1, fun p hp => PySem.W.codeHd_of_K KX (ck p hp).2.1, hb, fun H a ns hl _ h0 hS => ⟨a, ns, rfl, hl, hS, h0, fun _ => rfl⟩, hF⟩
end MP

namespace MP
open PySem
def d_Shelf_back_2 : Def := ⟨2, 0, ["self", "make"], (.cons (.expr (.call "_wall" (.cons (.int 1) .nil)))
  .nil)⟩
def d_Shelf_back_3 : Def := ⟨2, 0, ["self", "make"], (.cons (.expr (.meth (.var 0) "hold" (.cons (.var 1) (.cons (.tup (.cons (.str "back") (.cons (.call "size" (.cons (.var 1) .nil)) .nil))) .nil))))
  .nil)⟩
def d_Shelf_cut_2 : Def := ⟨2, 0, ["self", "place", "ahead", "others", "fresh"], (.cons (.unp [2, 3] (.call "cut_rows" (.cons (.fld (.var 0) "wood") (.cons (.fld (.var 0) "now") (.cons (.var 1) .nil)))))
  (.cons (.expr (.meth (.var 0) "hold" (.cons (.var 2) (.cons (.tup (.cons (.str "cut") (.cons (.var 1) .nil))) .nil))))
  (.cons (.asg 4 (.mk "Shelf" (.cons (.fld (.var 0) "wood") .nil)))
  (.cons (.expr (.meth (.var 4) "hold" (.cons (.var 3) (.cons .non .nil))))
  (.cons (.ret (.var 4))
  .nil)))))⟩
def d_Shelf_deeds : Def := ⟨1, 0, ["self"], (.cons (.ret (.blt .list (.cons (.fld (.var 0) "past") .nil)))
  .nil)⟩
def d_Shelf_deeds_2 : Def := ⟨1, 0, ["self"], (.cons (.ret (.blt .listC (.cons (.fld (.var 0) "past") .nil)))
  .nil)⟩
def d_Shelf_hold : Def := ⟨3, 0, ["self", "make", "deed"], (.cons (.sfld (.var 0) "now" (.var 1))
  (.cons (.ifs (.cmp .isn (.var 2) .non) (.cons (.app (.fld (.var 0) "past") (.var 2))
  .nil) .nil)
  .nil))⟩
def d_Shelf_init : Def := ⟨3, 1, ["self", "wood", "things"], (.cons (.sfld (.var 0) "wood" (.var 1))
  (.cons (.sfld (.var 0) "now" .non)
  (.cons (.sfld (.var 0) "past" (.lstC .nil))
  (.cons (.ifs (.cmp .isn (.var 2) .non) (.cons (.sfld (.var 0) "now" (.call "make_of" (.cons (.var 1) (.cons (.var 2) .nil))))
  .nil) .nil)
  .nil))))⟩
def d_Shelf_laid : Def := ⟨2, 0, ["self", "other", "make"], (.cons (.asg 2 (.meth (.var 1) "make" .nil))
  (.cons (.expr (.meth (.var 0) "hold" (.cons (.call "laid_rows" (.cons (.fld (.var 0) "wood") (.cons (.fld (.var 0) "now") (.cons (.var 2) .nil)))) (.cons (.tup (.cons (.str "laid") (.cons (.call "size" (.cons (.var 2) .nil)) .nil))) .nil))))
  .nil))⟩
def d_Shelf_make : Def := ⟨1, 0, ["self"], (.cons (.ret (.fld (.var 0) "now"))
  .nil)⟩
def d_Shelf_out : Def := ⟨2, 0, ["self", "place", "make", "thing"], (.cons (.asg 2 (.call "out_rows" (.cons (.fld (.var 0) "wood") (.cons (.fld (.var 0) "now") (.cons (.var 1) .nil)))))
  (.cons (.asg 3 (.call "at" (.cons (.fld (.var 0) "now") (.cons (.var 1) .nil))))
  (.cons (.expr (.meth (.var 0) "hold" (.cons (.var 2) (.cons (.tup (.cons (.str "out") (.cons (.var 1) .nil))) .nil))))
  (.cons (.ret (.var 3))
  .nil))))⟩
def d_Shelf_put : Def := ⟨3, 0, ["self", "place", "thing"], (.cons (.expr (.meth (.var 0) "hold" (.cons (.call "put_rows" (.cons (.fld (.var 0) "wood") (.cons (.fld (.var 0) "now") (.cons (.var 1) (.cons (.var 2) .nil))))) (.cons (.tup (.cons (.str "put") (.cons (.var 1) .nil))) .nil))))
  .nil)⟩
def d_Shelf_swap : Def := ⟨3, 0, ["self", "place", "thing"], (.cons (.expr (.meth (.var 0) "hold" (.cons (.call "swapped" (.cons (.fld (.var 0) "wood") (.cons (.fld (.var 0) "now") (.cons (.var 1) (.cons (.var 2) .nil))))) (.cons (.tup (.cons (.str "swap") (.cons (.var 1) .nil))) .nil))))
  .nil)⟩
def d_Shelf_things : Def := ⟨1, 0, ["self"], (.cons (.ret (.call "things_of" (.cons (.fld (.var 0) "now") .nil)))
  .nil)⟩
def d_Shelf_turned : Def := ⟨3, 0, ["self", "start", "end"], (.cons (.expr (.meth (.var 0) "hold" (.cons (.call "turned_part" (.cons (.fld (.var 0) "wood") (.cons (.fld (.var 0) "now") (.cons (.var 1) (.cons (.var 2) .nil))))) (.cons (.tup (.cons (.str "turned") (.cons (.var 1) (.cons (.var 2) .nil)))) .nil))))
  .nil)⟩
def d_Wood_init : Def := ⟨2, 1, ["self", "add"], (.cons (.sfld (.var 0) "adding" (.var 1))
  (.cons (.sfld (.var 0) "numbered" (.int 0))
  .nil))⟩
def d_Wood_made : Def := ⟨1, 0, ["self"], (.cons (.ret (.fld (.var 0) "numbered"))
  .nil)⟩
def d_Wood_made_2 : Def := ⟨1, 0, ["self"], (.cons (.expr (.call "_wall" (.cons (.int 0) .nil)))
  .nil)⟩
def d_Wood_next_number : Def := ⟨1, 0, ["self"], (.cons (.sfld (.var 0) "numbered" (.bin .add (.fld (.var 0) "numbered") (.int 1)))
  (.cons (.ret (.bin .sub (.fld (.var 0) "numbered") (.int 1)))
  .nil))⟩
def d_Wood_node : Def := ⟨4, 0, ["self", "left", "thing", "right", "many", "forth", "turned", "high"], (.cons (.asg 4 (.bin .add (.bin .add (.call "size" (.cons (.var 1) .nil)) (.call "size" (.cons (.var 3) .nil))) (.int 1)))
  (.cons (.ifs (.cmp .gt (.var 4) (.con "MOST" 2000)) (.cons (.raise "TooMany")
  .nil) .nil)
  (.cons (.ifs (.cmp .gt (.blt .abs (.cons (.bin .sub (.call "height" (.cons (.var 1) .nil)) (.call "height" (.cons (.var 3) .nil))) .nil)) (.int 1)) (.cons (.raise "NoBalance")
  .nil) .nil)
  (.cons (.unp [5, 6] (.call "sums_of" (.cons (.fld (.var 0) "adding") (.cons (.var 1) (.cons (.var 2) (.cons (.var 3) .nil))))))
  (.cons (.asg 7 (.bin .add (.int 1) (.blt .max (.cons (.call "height" (.cons (.var 1) .nil)) (.cons (.call "height" (.cons (.var 3) .nil)) .nil)))))
  (.cons (.ret (.tup (.cons (.meth (.var 0) "next_number" .nil) (.cons (.bl false) (.cons (.var 1) (.cons (.var 2) (.cons (.var 3) (.cons (.var 4) (.cons (.var 7) (.cons (.var 5) (.cons (.var 6) .nil)))))))))))
  .nil))))))⟩
def d_Wood_turned : Def := ⟨2, 0, ["self", "make"], (.cons (.ifs (.cmp .is (.var 1) .non) (.cons (.ret .non)
  .nil) .nil)
  (.cons (.ret (.bin .add (.bin .add (.tup (.cons (.meth (.var 0) "next_number" .nil) (.cons (.nt (.ix (.var 1) (.int 1))) .nil))) (.sl (.var 1) (.some (.int 2)) (.some (.int 7)))) (.tup (.cons (.ix (.var 1) (.int 8)) (.cons (.ix (.var 1) (.int 7)) .nil)))))
  .nil))⟩
def d_add_joined : Def := ⟨2, 0, ["_law_one", "_law_other"], (.cons (.ret (.bin .add (.var 0) (.var 1)))
  .nil)⟩
def d_add_most : Def := ⟨2, 0, ["_law_one", "_law_other"], (.cons (.ret (.blt .max (.cons (.var 0) (.cons (.var 1) .nil))))
  .nil)⟩
def d_add_pairs : Def := ⟨2, 0, ["_law_one", "_law_other"], (.cons (.ret (.tup (.cons (.bin .mod (.bin .mul (.ix (.var 0) (.int 0)) (.ix (.var 1) (.int 0))) (.int 1000003)) (.cons (.bin .mod (.bin .add (.bin .mul (.ix (.var 0) (.int 1)) (.ix (.var 1) (.int 0))) (.ix (.var 1) (.int 1))) (.int 1000003)) .nil))))
  .nil)⟩
def d_adding : Def := ⟨1, 0, ["_law_kind"], (.cons (.ifs (.cmp .eq (.var 0) (.int 0)) (.cons (.ret .non)
  .nil) .nil)
  (.cons (.ifs (.cmp .lt (.var 0) (.int 3)) (.cons (.ret (.fn "_law_add_joined"))
  .nil) .nil)
  (.cons (.ifs (.cmp .eq (.var 0) (.int 3)) (.cons (.ret (.fn "_law_add_pairs"))
  .nil) .nil)
  (.cons (.ret (.fn "_law_add_most"))
  .nil))))⟩
def d_amount : Def := ⟨1, 0, ["_law_cell_here"], (.cons (.ifs (.cmp .eq (.bin .mod (.var 0) (.int 16)) (.int 5)) (.cons (.ret (.bin .mod (.bin .fdiv (.var 0) (.int 16)) (.int 300)))
  .nil) .nil)
  (.cons (.ifs (.cmp .eq (.bin .mod (.var 0) (.int 4)) (.int 1)) (.cons (.ret (.bin .mod (.bin .fdiv (.var 0) (.int 16)) (.int 60)))
  .nil) .nil)
  (.cons (.ret (.bin .mod (.bin .fdiv (.var 0) (.int 16)) (.int 9)))
  .nil)))⟩
def d_ask_place : Def := ⟨3, 0, ["place", "least", "most"], (.cons (.ifs (.orr (.cons (.cmp .lt (.var 0) (.var 1)) (.cons (.cmp .gt (.var 0) (.var 2)) .nil))) (.cons (.raise "NoPlace")
  .nil) .nil)
  .nil)⟩
def d_ask_stretch : Def := ⟨3, 0, ["make", "start", "end"], (.cons (.expr (.call "ask_place" (.cons (.var 2) (.cons (.int 0) (.cons (.call "size" (.cons (.var 0) .nil)) .nil)))))
  (.cons (.expr (.call "ask_place" (.cons (.var 1) (.cons (.int 0) (.cons (.var 2) .nil)))))
  .nil))⟩
def d_at : Def := ⟨2, 0, ["make", "place", "turned", "left", "right"], (.cons (.expr (.call "ask_place" (.cons (.var 1) (.cons (.int 0) (.cons (.bin .sub (.call "size" (.cons (.var 0) .nil)) (.int 1)) .nil)))))
  (.cons (.asg 2 (.bl false))
  (.cons (.whl (.bl true) (.cons (.asg 2 (.cmp .ne (.var 2) (.ix (.var 0) (.int 1))))
  (.cons (.asg 3 (.ix (.var 0) (.int 2)))
  (.cons (.asg 4 (.ix (.var 0) (.int 4)))
  (.cons (.ifs (.var 2) (.cons (.asg 3 (.ix (.var 0) (.int 4)))
  (.cons (.asg 4 (.ix (.var 0) (.int 2)))
  .nil)) .nil)
  (.cons (.ifs (.cmp .eq (.var 1) (.call "size" (.cons (.var 3) .nil))) (.cons (.ret (.ix (.var 0) (.int 3)))
  .nil) .nil)
  (.cons (.ifs (.cmp .lt (.var 1) (.call "size" (.cons (.var 3) .nil))) (.cons (.asg 0 (.var 3))
  .nil) (.cons (.asg 1 (.bin .sub (.bin .sub (.var 1) (.call "size" (.cons (.var 3) .nil))) (.int 1)))
  (.cons (.asg 0 (.var 4))
  .nil)))
  .nil)))))))
  .nil)))⟩
def d_back : Def := ⟨1, 0, ["make"], (.cons (.ifs (.cmp .is (.var 0) .non) (.cons (.ret .non)
  .nil) .nil)
  (.cons (.ret (.ix (.var 0) (.int 8)))
  .nil))⟩
def d_back_2 : Def := ⟨5, 0, ["_law_shelf", "_law_plain", "_law_deeds", "_law_make", "_law_things"], (.cons (.ifs (.cmp .isn (.meth (.var 0) "back" (.cons (.var 3) .nil)) .non) (.cons (.ret (.bl false))
  .nil) .nil)
  (.cons (.expr (.mc .clr (.var 1) .nil))
  (.cons (.expr (.mc .ext (.var 1) (.cons (.var 4) .nil)))
  (.cons (.app (.var 2) (.tup (.cons (.str "back") (.cons (.blt .len (.cons (.var 4) .nil)) .nil))))
  (.cons (.ret (.cmp .eq (.meth (.var 0) "make" .nil) (.var 3)))
  .nil)))))⟩
def d_bad : Def := ⟨4, 0, ["_law_shelf", "_law_way", "_law_number", "_law_many", "_law_great", "_law_place", "_law_own"], (.cons (.asg 4 (.bin .add (.int 1) (.bin .mul (.var 2) (.bin .pow (.int 10) (.int 30)))))
  (.cons (.asg 5 (.ix (.lst (.cons (.bin .sub (.neg (.int 1)) (.bin .mod (.var 2) (.int 5))) (.cons (.bin .add (.bin .add (.var 3) (.int 1)) (.bin .mod (.var 2) (.int 5))) (.cons (.bin .add (.var 3) (.var 4)) (.cons (.bin .sub (.int 0) (.var 4)) .nil))))) (.bin .mod (.bin .fdiv (.var 2) (.int 5)) (.int 4))))
  (.cons (.asg 6 (.ix (.lst (.cons (.var 5) (.cons (.var 3) .nil))) (.bin .mod (.bin .fdiv (.var 2) (.int 20)) (.int 2))))
  (.cons (.ifs (.cmp .eq (.var 1) (.int 0)) (.cons (.expr (.meth (.var 0) "put" (.cons (.var 5) (.cons (.str "a") .nil))))
  .nil) (.cons (.ifs (.cmp .eq (.var 1) (.int 1)) (.cons (.expr (.meth (.var 0) "out" (.cons (.var 6) .nil)))
  .nil) (.cons (.ifs (.cmp .eq (.var 1) (.int 2)) (.cons (.expr (.meth (.var 0) "swap" (.cons (.var 6) (.cons (.str "a") .nil))))
  .nil) (.cons (.ifs (.cmp .eq (.var 1) (.int 3)) (.cons (.expr (.meth (.var 0) "turned" (.cons (.ix (.lst (.cons (.int 0) (.cons (.var 5) .nil))) (.bin .mod (.var 2) (.int 2))) (.cons (.var 5) .nil))))
  .nil) (.cons (.ifs (.cmp .eq (.var 1) (.int 4)) (.cons (.expr (.meth (.var 0) "turned" (.cons (.bin .add (.int 1) (.bin .mod (.var 2) (.int 3))) (.cons (.bin .mod (.bin .fdiv (.var 2) (.int 3)) (.bin .add (.int 1) (.bin .mod (.var 2) (.int 3)))) .nil))))
  .nil) (.cons (.ifs (.cmp .eq (.var 1) (.int 5)) (.cons (.expr (.meth (.var 0) "turned" (.cons (.bin .add (.bin .add (.var 3) (.int 1)) (.bin .mod (.var 2) (.int 4))) (.cons (.var 3) .nil))))
  .nil) (.cons (.expr (.meth (.var 0) "cut" (.cons (.var 5) .nil)))
  .nil))
  .nil))
  .nil))
  .nil))
  .nil))
  .nil))
  .nil))))⟩
def d_base : Def := ⟨4, 0, ["_law_wood", "_law_script", "_law_k", "_law_things", "_law_make", "_law_some", "_law_j", "_law_end", "_law_start"], (.cons (.asg 4 (.call "make_of" (.cons (.var 0) (.cons (.blt .list (.cons (.var 3) .nil)) .nil))))
  (.cons (.asg 5 (.blt .list (.cons (.var 3) .nil)))
  (.cons (.for1 6 (.rng (.bin .mod (.call "_law_mixed" (.cons (.var 1) (.cons (.var 2) .nil))) (.int 4))) (.cons (.asg 7 (.bin .mod (.call "_law_mixed" (.cons (.var 1) (.cons (.bin .add (.bin .add (.var 2) (.int 1)) (.var 6)) .nil))) (.bin .add (.blt .len (.cons (.var 5) .nil)) (.int 1))))
  (.cons (.asg 8 (.bin .mod (.call "_law_mixed" (.cons (.var 1) (.cons (.bin .add (.bin .add (.var 2) (.int 5)) (.var 6)) .nil))) (.bin .add (.var 7) (.int 1))))
  (.cons (.asg 4 (.call "turned_part" (.cons (.var 0) (.cons (.var 4) (.cons (.var 8) (.cons (.var 7) .nil))))))
  (.cons (.asg 5 (.bin .add (.bin .add (.sl (.var 5) .none (.some (.var 8))) (.rev (.sl (.var 5) (.some (.var 8)) (.some (.var 7))))) (.sl (.var 5) (.some (.var 7)) .none)))
  .nil)))))
  (.cons (.ifs (.cmp .eq (.bin .mod (.call "_law_mixed" (.cons (.var 1) (.cons (.bin .add (.var 2) (.int 9)) .nil))) (.int 3)) (.int 1)) (.cons (.ret (.lst (.cons (.meth (.var 0) "turned" (.cons (.var 4) .nil)) (.cons (.rev (.var 5)) .nil))))
  .nil) .nil)
  (.cons (.ret (.lst (.cons (.var 4) (.cons (.var 5) .nil))))
  .nil)))))⟩
def d_both : Def := ⟨3, 0, ["wood", "one", "other", "rest", "last"], (.cons (.ifs (.cmp .is (.var 1) .non) (.cons (.ret (.var 2))
  .nil) .nil)
  (.cons (.ifs (.cmp .is (.var 2) .non) (.cons (.ret (.var 1))
  .nil) .nil)
  (.cons (.unp [3, 4] (.call "without_last" (.cons (.var 0) (.cons (.var 1) .nil))))
  (.cons (.ret (.call "joined" (.cons (.var 0) (.cons (.var 3) (.cons (.var 4) (.cons (.var 2) .nil))))))
  .nil))))⟩
def d_cell : Def := ⟨2, 0, ["_law_script", "_law_k", "_law_number"], (.cons (.ifs (.cmp .lt (.var 1) (.blt .len (.cons (.var 0) .nil))) (.cons (.ret (.ix (.var 0) (.var 1)))
  .nil) .nil)
  (.cons (.asg 2 (.bin .add (.bin .mul (.var 1) (.int 7919)) (.int 5)))
  (.cons (.ifs (.cmp .gt (.blt .len (.cons (.var 0) .nil)) (.int 0)) (.cons (.asg 2 (.bin .mod (.bin .add (.bin .mul (.ix (.var 0) (.bin .mod (.bin .mul (.var 1) (.int 7)) (.blt .len (.cons (.var 0) .nil)))) (.int 48271)) (.bin .mul (.var 1) (.int 7919))) (.int 2147483647)))
  .nil) .nil)
  (.cons (.ret (.bin .mod (.bin .mul (.var 2) (.var 2)) (.int 2147483629)))
  .nil))))⟩
def d_cell_3 : Def := ⟨2, 0, ["_law_script", "_law_k", "_law_base"], (.cons (.ifs (.cmp .lt (.var 1) (.blt .len (.cons (.var 0) .nil))) (.cons (.ret (.ix (.var 0) (.var 1)))
  .nil) .nil)
  (.cons (.asg 2 (.bin .add (.bin .mul (.int 5) (.var 1)) (.int 29)))
  (.cons (.ifs (.cmp .gt (.blt .len (.cons (.var 0) .nil)) (.int 0)) (.cons (.asg 2 (.bin .add (.var 2) (.bin .mul (.bin .mod (.ix (.var 0) (.bin .mod (.bin .mul (.var 1) (.int 3)) (.blt .len (.cons (.var 0) .nil)))) (.int 1000000007)) (.int 40507))))
  .nil) .nil)
  (.cons (.ret (.bin .add (.bin .mod (.bin .mul (.var 2) (.var 2)) (.int 2147483563)) (.var 1)))
  .nil))))⟩
def d_cut : Def := ⟨3, 0, ["wood", "make", "place"], (.cons (.expr (.call "ask_place" (.cons (.var 2) (.cons (.int 0) (.cons (.call "size" (.cons (.var 1) .nil)) .nil)))))
  (.cons (.ret (.call "cut_at" (.cons (.var 0) (.cons (.var 1) (.cons (.var 2) .nil)))))
  .nil))⟩
def d_cut_at : Def := ⟨3, 0, ["wood", "make", "place", "left", "own", "right", "ahead", "rest", "later"], (.cons (.ifs (.cmp .is (.var 1) .non) (.cons (.ret (.tup (.cons .non (.cons .non .nil))))
  .nil) .nil)
  (.cons (.unp [3, 4, 5] (.call "parts" (.cons (.var 0) (.cons (.var 1) .nil))))
  (.cons (.ifs (.cmp .le (.var 2) (.call "size" (.cons (.var 3) .nil))) (.cons (.unp [6, 7] (.call "cut_at" (.cons (.var 0) (.cons (.var 3) (.cons (.var 2) .nil)))))
  (.cons (.ret (.tup (.cons (.var 6) (.cons (.call "joined" (.cons (.var 0) (.cons (.var 7) (.cons (.var 4) (.cons (.var 5) .nil))))) .nil))))
  .nil)) .nil)
  (.cons (.unp [7, 8] (.call "cut_at" (.cons (.var 0) (.cons (.var 5) (.cons (.bin .sub (.bin .sub (.var 2) (.call "size" (.cons (.var 3) .nil))) (.int 1)) .nil)))))
  (.cons (.ret (.tup (.cons (.call "joined" (.cons (.var 0) (.cons (.var 3) (.cons (.var 4) (.cons (.var 7) .nil))))) (.cons (.var 8) .nil))))
  .nil)))))⟩
def d_deed_8 : Def := ⟨5, 0, ["_law_shelf", "_law_plain", "_law_deeds", "_law_number", "_law_kind", "_law_way", "_law_place", "_law_thing_here", "_law_found", "_law_end"], (.cons (.asg 5 (.bin .mod (.var 3) (.int 5)))
  (.cons (.asg 3 (.bin .fdiv (.var 3) (.int 5)))
  (.cons (.asg 6 (.bin .mod (.var 3) (.bin .add (.blt .len (.cons (.var 1) .nil)) (.int 1))))
  (.cons (.asg 7 (.call "_law_thing" (.cons (.bin .fdiv (.var 3) (.int 400)) (.cons (.var 4) .nil))))
  (.cons (.ifs (.an (.cons (.cmp .eq (.var 5) (.int 0)) (.cons (.cmp .lt (.var 6) (.blt .len (.cons (.var 1) .nil))) .nil))) (.cons (.asg 8 (.meth (.var 0) "out" (.cons (.var 6) .nil)))
  (.cons (.app (.var 2) (.tup (.cons (.str "out") (.cons (.var 6) .nil))))
  (.cons (.ret (.cmp .eq (.var 8) (.mc .popA (.var 1) (.cons (.var 6) .nil))))
  .nil))) .nil)
  (.cons (.ifs (.an (.cons (.cmp .eq (.var 5) (.int 1)) (.cons (.cmp .lt (.var 6) (.blt .len (.cons (.var 1) .nil))) .nil))) (.cons (.six (.var 1) (.var 6) (.var 7))
  (.cons (.app (.var 2) (.tup (.cons (.str "swap") (.cons (.var 6) .nil))))
  (.cons (.ret (.cmp .is (.meth (.var 0) "swap" (.cons (.var 6) (.cons (.var 7) .nil))) .non))
  .nil))) .nil)
  (.cons (.ifs (.cmp .eq (.var 5) (.int 2)) (.cons (.asg 9 (.bin .add (.var 6) (.bin .mod (.bin .fdiv (.var 3) (.int 400)) (.bin .sub (.bin .add (.blt .len (.cons (.var 1) .nil)) (.int 1)) (.var 6)))))
  (.cons (.slset (.var 1) (.var 6) (.var 9) (.rev (.sl (.var 1) (.some (.var 6)) (.some (.var 9)))))
  (.cons (.app (.var 2) (.tup (.cons (.str "turned") (.cons (.var 6) (.cons (.var 9) .nil)))))
  (.cons (.ret (.cmp .is (.meth (.var 0) "turned" (.cons (.var 6) (.cons (.var 9) .nil))) .non))
  .nil)))) .nil)
  (.cons (.expr (.mc .ins (.var 1) (.cons (.var 6) (.cons (.var 7) .nil))))
  (.cons (.app (.var 2) (.tup (.cons (.str "put") (.cons (.var 6) .nil))))
  (.cons (.ret (.cmp .is (.meth (.var 0) "put" (.cons (.var 6) (.cons (.var 7) .nil))) .non))
  .nil))))))))))⟩
def d_drawn : Def := ⟨2, 0, ["_law_cell_here", "_law_amount_here", "_law_number", "_law_found", "_law_k"], (.cons (.asg 2 (.bin .mod (.var 0) (.int 998244353)))
  (.cons (.asg 3 (.lstC .nil))
  (.cons (.for1 4 (.rng (.bin .add (.var 1) (.int 2))) (.cons (.asg 2 (.bin .mod (.bin .add (.bin .add (.bin .mul (.var 2) (.bin .add (.bin .add (.var 2) (.bin .mul (.int 2) (.var 4))) (.int 91))) (.bin .mul (.int 1013) (.var 4))) (.int 7)) (.int 998244353)))
  (.cons (.app (.var 3) (.bin .fdiv (.var 2) (.int 5)))
  .nil)))
  (.cons (.ret (.sl (.var 3) (.some (.int 2)) .none))
  .nil))))⟩
def d_evened : Def := ⟨4, 0, ["wood", "left", "thing", "right"], (.cons (.ifs (.cmp .gt (.call "height" (.cons (.var 1) .nil)) (.bin .add (.call "height" (.cons (.var 3) .nil)) (.int 1))) (.cons (.ret (.call "leaning_left" (.cons (.var 0) (.cons (.var 1) (.cons (.var 2) (.cons (.var 3) .nil))))))
  .nil) .nil)
  (.cons (.ifs (.cmp .gt (.call "height" (.cons (.var 3) .nil)) (.bin .add (.call "height" (.cons (.var 1) .nil)) (.int 1))) (.cons (.ret (.call "leaning_right" (.cons (.var 0) (.cons (.var 1) (.cons (.var 2) (.cons (.var 3) .nil))))))
  .nil) .nil)
  (.cons (.ret (.meth (.var 0) "node" (.cons (.var 1) (.cons (.var 2) (.cons (.var 3) .nil)))))
  .nil)))⟩
def d_full : Def := ⟨3, 0, ["_law_shelf", "_law_wood", "_law_cell_here", "_law_many", "_law_deeds", "_law_rest", "_law_last", "_law_done"], (.cons (.asg 3 (.blt .len (.cons (.meth (.var 0) "things" .nil) .nil)))
  (.cons (.ifs (.nt (.call "_law_not_made" (.cons (.var 1) .nil))) (.cons (.ret (.bl false))
  .nil) .nil)
  (.cons (.asg 4 (.meth (.var 0) "deeds" .nil))
  (.cons (.asg 5 (.mk "Shelf" (.cons (.var 1) (.cons (.bin .mul (.lst (.cons (.str "z") .nil)) (.bin .sub (.int 2000) (.var 3))) .nil))))
  (.cons (.ifs (.orr (.cons (.cmp .ne (.call "_law_more" (.cons (.var 0) (.cons (.var 0) (.cons (.int 0) .nil)))) (.str "many")) (.cons (.cmp .ne (.call "_law_more" (.cons (.var 0) (.cons (.mk "Shelf" (.cons (.var 1) (.cons (.bin .mul (.lst (.cons (.str "y") .nil)) (.bin .sub (.int 2001) (.var 3))) .nil))) (.cons (.int 0) .nil)))) (.str "many")) .nil))) (.cons (.ret (.bl false))
  .nil) .nil)
  (.cons (.ifs (.orr (.cons (.cmp .ne (.meth (.var 0) "deeds" .nil) (.var 4)) (.cons (.cmp .ne (.blt .len (.cons (.meth (.var 0) "things" .nil) .nil)) (.var 3)) (.cons (.cmp .isn (.meth (.var 0) "laid" (.cons (.var 5) .nil)) .non) .nil)))) (.cons (.ret (.bl false))
  .nil) .nil)
  (.cons (.ifs (.orr (.cons (.cmp .ne (.call "_law_more" (.cons (.var 0) (.cons .non (.cons (.bin .mod (.var 2) (.int 2001)) .nil)))) (.str "many")) (.cons (.cmp .ne (.call "_law_more" (.cons (.var 0) (.cons .non (.cons (.bin .add (.int 2001) (.bin .mod (.var 2) (.int 9))) .nil)))) (.str "place")) .nil))) (.cons (.ret (.bl false))
  .nil) .nil)
  (.cons (.asg 6 (.ix (.meth (.var 0) "things" .nil) (.neg (.int 1))))
  (.cons (.ifs (.orr (.cons (.cmp .ne (.meth (.var 0) "out" (.cons (.int 1999) .nil)) (.var 6)) (.cons (.cmp .isn (.meth (.var 0) "put" (.cons (.bin .mod (.var 2) (.int 2000)) (.cons (.str "b") .nil))) .non) .nil))) (.cons (.ret (.bl false))
  .nil) .nil)
  (.cons (.asg 7 (.lst (.cons (.tup (.cons (.str "laid") (.cons (.bin .sub (.int 2000) (.var 3)) .nil))) (.cons (.tup (.cons (.str "out") (.cons (.int 1999) .nil))) (.cons (.tup (.cons (.str "put") (.cons (.bin .mod (.var 2) (.int 2000)) .nil))) .nil)))))
  (.cons (.ret (.an (.cons (.cmp .eq (.meth (.var 0) "deeds" .nil) (.bin .add (.var 4) (.var 7))) (.cons (.cmp .eq (.blt .len (.cons (.meth (.var 0) "things" .nil) .nil)) (.int 2000)) .nil))))
  .nil)))))))))))⟩
def d_grown : Def := ⟨5, 0, ["_law_wood", "_law_script", "_law_pen", "_law_high", "_law_kind", "_law_number", "_law_lower", "_law_left", "_law_right", "_law_make"], (.cons (.six (.var 2) (.int 0) (.bin .add (.ix (.var 2) (.int 0)) (.int 3)))
  (.cons (.asg 5 (.call "_law_mixed" (.cons (.var 1) (.cons (.ix (.var 2) (.int 0)) .nil))))
  (.cons (.ifs (.cmp .lt (.var 3) (.int 1)) (.cons (.ret .non)
  .nil) .nil)
  (.cons (.asg 6 (.bin .sub (.bin .sub (.var 3) (.int 1)) (.bin .mod (.var 5) (.int 2))))
  (.cons (.asg 7 (.call "_law_grown" (.cons (.var 0) (.cons (.var 1) (.cons (.var 2) (.cons (.bin .sub (.var 3) (.int 1)) (.cons (.var 4) .nil)))))))
  (.cons (.asg 8 (.var 7))
  (.cons (.ifs (.cmp .gt (.bin .mod (.bin .fdiv (.var 5) (.int 2)) (.int 7)) (.int 0)) (.cons (.asg 8 (.call "_law_grown" (.cons (.var 0) (.cons (.var 1) (.cons (.var 2) (.cons (.var 6) (.cons (.var 4) .nil)))))))
  .nil) .nil)
  (.cons (.ifs (.cmp .eq (.bin .mod (.bin .fdiv (.var 5) (.int 14)) (.int 2)) (.int 1)) (.cons (.par 7 8 (.var 8) (.var 7))
  .nil) .nil)
  (.cons (.asg 9 (.meth (.var 0) "node" (.cons (.var 7) (.cons (.call "_law_thing" (.cons (.var 1) (.cons (.bin .add (.ix (.var 2) (.int 0)) (.int 1)) (.cons (.var 4) .nil)))) (.cons (.var 8) .nil)))))
  (.cons (.ifs (.cmp .eq (.bin .mod (.bin .fdiv (.var 5) (.int 28)) (.int 3)) (.int 1)) (.cons (.ret (.meth (.var 0) "turned" (.cons (.var 9) .nil)))
  .nil) .nil)
  (.cons (.ret (.var 9))
  .nil)))))))))))⟩
def d_height : Def := ⟨1, 0, ["make"], (.cons (.ifs (.cmp .is (.var 0) .non) (.cons (.ret (.int 0))
  .nil) .nil)
  (.cons (.ret (.ix (.var 0) (.int 6)))
  .nil))⟩
def d_is : Def := ⟨3, 0, ["_law_make", "_law_things", "_law_kind", "_law_found"], (.cons (.asg 3 (.call "_law_walk" (.cons (.var 0) (.cons (.var 2) .nil))))
  (.cons (.ret (.an (.cons (.cmp .isn (.var 3) .non) (.cons (.cmp .eq (.ix (.var 3) (.int 1)) (.var 1)) .nil))))
  .nil))⟩
def d_is_right : Def := ⟨2, 1, ["make", "add", "forth", "turned"], (.cons (.ifs (.cmp .is (.var 0) .non) (.cons (.ret (.bl true))
  .nil) .nil)
  (.cons (.ifs (.orr (.cons (.nt (.call "is_whole" (.cons (.ix (.var 0) (.int 0)) .nil))) (.cons (.nt (.blt (.isin "bool") (.cons (.ix (.var 0) (.int 1)) .nil))) .nil))) (.cons (.ret (.bl false))
  .nil) .nil)
  (.cons (.ifs (.orr (.cons (.nt (.call "is_right" (.cons (.ix (.var 0) (.int 2)) (.cons (.var 1) .nil)))) (.cons (.nt (.call "is_right" (.cons (.ix (.var 0) (.int 4)) (.cons (.var 1) .nil)))) (.cons (.nt (.call "measures_right" (.cons (.var 0) .nil))) .nil)))) (.cons (.ret (.bl false))
  .nil) .nil)
  (.cons (.unp [2, 3] (.call "sums_of" (.cons (.var 1) (.cons (.ix (.var 0) (.int 2)) (.cons (.ix (.var 0) (.int 3)) (.cons (.ix (.var 0) (.int 4)) .nil))))))
  (.cons (.ifs (.ix (.var 0) (.int 1)) (.cons (.ret (.an (.cons (.cmp .eq (.ix (.var 0) (.int 7)) (.var 3)) (.cons (.cmp .eq (.ix (.var 0) (.int 8)) (.var 2)) .nil))))
  .nil) .nil)
  (.cons (.ret (.an (.cons (.cmp .eq (.ix (.var 0) (.int 7)) (.var 2)) (.cons (.cmp .eq (.ix (.var 0) (.int 8)) (.var 3)) .nil))))
  .nil))))))⟩
def d_is_whole : Def := ⟨1, 0, ["thing"], (.cons (.ret (.an (.cons (.blt (.isin "int") (.cons (.var 0) .nil)) (.cons (.nt (.blt (.isin "bool") (.cons (.var 0) .nil))) .nil))))
  .nil)⟩
def d_joined : Def := ⟨4, 0, ["wood", "left", "thing", "right", "ahead", "own", "amid", "later"], (.cons (.ifs (.cmp .gt (.call "height" (.cons (.var 1) .nil)) (.bin .add (.call "height" (.cons (.var 3) .nil)) (.int 1))) (.cons (.unp [4, 5, 6] (.call "parts" (.cons (.var 0) (.cons (.var 1) .nil))))
  (.cons (.ret (.call "evened" (.cons (.var 0) (.cons (.var 4) (.cons (.var 5) (.cons (.call "joined" (.cons (.var 0) (.cons (.var 6) (.cons (.var 2) (.cons (.var 3) .nil))))) .nil))))))
  .nil)) .nil)
  (.cons (.ifs (.cmp .gt (.call "height" (.cons (.var 3) .nil)) (.bin .add (.call "height" (.cons (.var 1) .nil)) (.int 1))) (.cons (.unp [6, 5, 7] (.call "parts" (.cons (.var 0) (.cons (.var 3) .nil))))
  (.cons (.ret (.call "evened" (.cons (.var 0) (.cons (.call "joined" (.cons (.var 0) (.cons (.var 1) (.cons (.var 2) (.cons (.var 6) .nil))))) (.cons (.var 5) (.cons (.var 7) .nil))))))
  .nil)) .nil)
  (.cons (.ret (.meth (.var 0) "node" (.cons (.var 1) (.cons (.var 2) (.cons (.var 3) .nil)))))
  .nil)))⟩
def d_kind_of_3 : Def := ⟨1, 0, ["_law_caught", "_law_kinds"], (.cons (.ifs (.isT (.var 0) ["Changed", "NoBalance", "NoMore", "NoName", "NoNumber", "NoRow", "NoSum", "NoThing", "NoWay"] [("NoBalance", true), ("NoPlace", false), ("TooMany", false)]) (.cons (.ret (.str "other"))
  .nil) .nil)
  (.cons (.asg 1 (.lst (.cons (.isE (.var 0) "NoPlace" [("NoBalance", false), ("NoPlace", true), ("TooMany", false)]) (.cons (.isE (.var 0) "TooMany" [("NoBalance", false), ("NoPlace", false), ("TooMany", true)]) .nil))))
  (.cons (.ifs (.orr (.cons (.cmp .ne (.blt .sum (.cons (.var 1) .nil)) (.int 1)) (.cons (.nt (.isE (.var 0) "ValueError" [("NoBalance", true), ("NoPlace", true), ("TooMany", true)])) .nil))) (.cons (.ret (.str "other"))
  .nil) .nil)
  (.cons (.ret (.ix (.lst (.cons (.str "place") (.cons (.str "many") .nil))) (.blt .int (.cons (.ix (.var 1) (.int 1)) .nil))))
  .nil))))⟩
def d_laid : Def := ⟨3, 0, ["wood", "one", "other"], (.cons (.ifs (.cmp .gt (.bin .add (.call "size" (.cons (.var 1) .nil)) (.call "size" (.cons (.var 2) .nil))) (.con "MOST" 2000)) (.cons (.raise "TooMany")
  .nil) .nil)
  (.cons (.ret (.call "both" (.cons (.var 0) (.cons (.var 1) (.cons (.var 2) .nil)))))
  .nil))⟩
def d_law_10 : Def := ⟨1, 0, ["_law_script", "_law_kind", "_law_wood", "_law_things", "_law_handed", "_law_plain", "_law_make", "_law_some", "_law_found", "_law_k", "_law_beyond"], (.cons (.asg 1 (.bin .mod (.call "_law_mixed" (.cons (.var 0) (.cons (.int 0) .nil))) (.int 5)))
  (.cons (.asg 2 (.mk "Wood" (.cons (.call "_law_adding" (.cons (.var 1) .nil)) .nil)))
  (.cons (.asg 3 (.call "_law_list" (.cons (.var 0) (.cons (.int 10) (.cons (.var 1) (.cons (.bl true) .nil))))))
  (.cons (.asg 4 (.blt .list (.cons (.var 3) .nil)))
  (.cons (.asg 5 (.call "make_of" (.cons (.var 2) (.cons (.var 4) .nil))))
  (.cons (.ifs (.orr (.cons (.nt (.call "_law_is" (.cons (.var 5) (.cons (.var 3) (.cons (.var 1) .nil))))) (.cons (.cmp .ne (.var 4) (.var 3)) .nil))) (.cons (.ret (.bl false))
  .nil) .nil)
  (.cons (.unp [6, 7] (.call "_law_base" (.cons (.var 2) (.cons (.var 0) (.cons (.int 300) (.cons (.var 3) .nil))))))
  (.cons (.asg 8 (.call "things_of" (.cons (.var 6) .nil)))
  (.cons (.ifs (.orr (.cons (.nt (.call "_law_is" (.cons (.var 6) (.cons (.var 7) (.cons (.var 1) .nil))))) (.cons (.nt (.blt (.isin "list") (.cons (.var 8) .nil))) (.cons (.cmp .ne (.var 8) (.var 7)) .nil)))) (.cons (.ret (.bl false))
  .nil) .nil)
  (.cons (.for1 9 (.rng (.blt .len (.cons (.var 7) .nil))) (.cons (.ifs (.cmp .ne (.call "at" (.cons (.var 6) (.cons (.var 9) .nil))) (.ix (.var 7) (.var 9))) (.cons (.ret (.bl false))
  .nil) .nil)
  .nil))
  (.cons (.app (.var 8) (.int 1))
  (.cons (.asg 10 (.bin .add (.blt .len (.cons (.var 7) .nil)) (.bin .mod (.call "_law_mixed" (.cons (.var 0) (.cons (.int 1) .nil))) (.bin .pow (.int 10) (.int 60)))))
  (.cons (.ifs (.orr (.cons (.nt (.call "_law_refused" (.cons (.var 6) (.cons (.var 10) .nil)))) (.cons (.nt (.call "_law_refused" (.cons (.var 6) (.cons (.bin .sub (.neg (.int 1)) (.bin .mod (.call "_law_mixed" (.cons (.var 0) (.cons (.int 2) .nil))) (.int 3))) .nil)))) .nil))) (.cons (.ret (.bl false))
  .nil) .nil)
  (.cons (.ret (.an (.cons (.cmp .eq (.call "things_of" (.cons (.var 6) .nil)) (.var 7)) (.cons (.cmp .eq (.call "things_of" (.cons .non .nil)) (.lst .nil)) (.cons (.cmp .eq (.call "things_of" (.cons (.var 5) .nil)) (.var 3)) .nil)))))
  .nil))))))))))))))⟩
def d_law_16 : Def := ⟨1, 0, ["_law_script", "_law_kind", "_law_wood", "_law_make", "_law_some", "_law_end", "_law_start", "_law_way", "_law_found", "_law_again"], (.cons (.asg 1 (.bin .mod (.call "_law_mixed" (.cons (.var 0) (.cons (.int 0) .nil))) (.int 5)))
  (.cons (.asg 2 (.mk "Wood" (.cons (.call "_law_adding" (.cons (.var 1) .nil)) .nil)))
  (.cons (.unp [3, 4] (.call "_law_base" (.cons (.var 2) (.cons (.var 0) (.cons (.int 300) (.cons (.call "_law_list" (.cons (.var 0) (.cons (.int 10) (.cons (.var 1) (.cons (.bl true) .nil))))) .nil))))))
  (.cons (.asg 5 (.bin .mod (.call "_law_mixed" (.cons (.var 0) (.cons (.int 1) .nil))) (.bin .add (.blt .len (.cons (.var 4) .nil)) (.int 1))))
  (.cons (.asg 6 (.bin .mod (.call "_law_mixed" (.cons (.var 0) (.cons (.int 2) .nil))) (.bin .add (.var 5) (.int 1))))
  (.cons (.asg 7 (.bin .mod (.call "_law_mixed" (.cons (.var 0) (.cons (.int 3) .nil))) (.int 4)))
  (.cons (.ifs (.cmp .eq (.var 7) (.int 0)) (.cons (.asg 6 (.var 5))
  .nil) .nil)
  (.cons (.ifs (.cmp .eq (.var 7) (.int 1)) (.cons (.asg 6 (.int 0))
  (.cons (.asg 5 (.blt .len (.cons (.var 4) .nil)))
  .nil)) .nil)
  (.cons (.ifs (.nt (.call "_law_is" (.cons (.call "part" (.cons (.var 2) (.cons (.var 3) (.cons (.var 6) (.cons (.var 5) .nil))))) (.cons (.sl (.var 4) (.some (.var 6)) (.some (.var 5))) (.cons (.var 1) .nil))))) (.cons (.ret (.bl false))
  .nil) .nil)
  (.cons (.asg 8 (.call "turned_part" (.cons (.var 2) (.cons (.var 3) (.cons (.var 6) (.cons (.var 5) .nil))))))
  (.cons (.ifs (.nt (.call "_law_is" (.cons (.var 8) (.cons (.bin .add (.bin .add (.sl (.var 4) .none (.some (.var 6))) (.rev (.sl (.var 4) (.some (.var 6)) (.some (.var 5))))) (.sl (.var 4) (.some (.var 5)) .none)) (.cons (.var 1) .nil))))) (.cons (.ret (.bl false))
  .nil) .nil)
  (.cons (.asg 9 (.call "turned_part" (.cons (.var 2) (.cons (.var 8) (.cons (.var 6) (.cons (.var 5) .nil))))))
  (.cons (.ret (.an (.cons (.call "_law_is" (.cons (.var 9) (.cons (.var 4) (.cons (.var 1) .nil)))) (.cons (.call "_law_is" (.cons (.var 3) (.cons (.var 4) (.cons (.var 1) .nil)))) .nil))))
  .nil)))))))))))))⟩
def d_law_2 : Def := ⟨1, 0, ["_law_script", "_law_kind", "_law_wood", "_law_make", "_law_made", "_law_things_here", "_law_other", "_law_again"], (.cons (.asg 1 (.bin .mod (.call "_law_mixed" (.cons (.var 0) (.cons (.int 0) .nil))) (.int 5)))
  (.cons (.asg 2 (.mk "Wood" (.cons (.call "_law_adding" (.cons (.var 1) .nil)) .nil)))
  (.cons (.asg 3 (.call "_law_grown" (.cons (.var 2) (.cons (.var 0) (.cons (.lstC (.cons (.int 10) .nil)) (.cons (.bin .mod (.call "_law_mixed" (.cons (.var 0) (.cons (.int 2) .nil))) (.int 6)) (.cons (.var 1) .nil)))))))
  (.cons (.asg 4 (.meth (.var 2) "made" .nil))
  (.cons (.ifs (.orr (.cons (.cmp .isn (.meth (.var 2) "turned" (.cons .non .nil)) .non) (.cons (.cmp .ne (.meth (.var 2) "made" .nil) (.var 4)) .nil))) (.cons (.ret (.bl false))
  .nil) .nil)
  (.cons (.ifs (.cmp .is (.var 3) .non) (.cons (.ret (.bl true))
  .nil) .nil)
  (.cons (.asg 5 (.call "_law_things" (.cons (.var 3) .nil)))
  (.cons (.asg 6 (.meth (.var 2) "turned" (.cons (.var 3) .nil)))
  (.cons (.ifs (.orr (.cons (.nt (.blt (.isin "tuple") (.cons (.var 6) .nil))) (.cons (.cmp .ne (.blt .len (.cons (.var 6) .nil)) (.int 9)) (.cons (.cmp .ne (.ix (.var 6) (.int 0)) (.var 4)) .nil)))) (.cons (.ret (.bl false))
  .nil) .nil)
  (.cons (.ifs (.orr (.cons (.nt (.blt (.isin "bool") (.cons (.ix (.var 6) (.int 1)) .nil))) (.cons (.cmp .eq (.ix (.var 6) (.int 1)) (.ix (.var 3) (.int 1))) .nil))) (.cons (.ret (.bl false))
  .nil) .nil)
  (.cons (.ifs (.orr (.cons (.cmp .ne (.sl (.var 6) (.some (.int 2)) (.some (.int 7))) (.sl (.var 3) (.some (.int 2)) (.some (.int 7)))) (.cons (.cmp .ne (.sl (.var 6) (.some (.int 7)) .none) (.tup (.cons (.ix (.var 3) (.int 8)) (.cons (.ix (.var 3) (.int 7)) .nil)))) (.cons (.cmp .ne (.meth (.var 2) "made" .nil) (.bin .add (.var 4) (.int 1))) .nil)))) (.cons (.ret (.bl false))
  .nil) .nil)
  (.cons (.ifs (.orr (.cons (.cmp .ne (.call "_law_things" (.cons (.var 6) .nil)) (.rev (.var 5))) (.cons (.cmp .ne (.sl (.var 6) (.some (.int 7)) .none) (.tup (.cons (.call "_law_sum" (.cons (.var 1) (.cons (.rev (.var 5)) .nil))) (.cons (.call "_law_sum" (.cons (.var 1) (.cons (.var 5) .nil))) .nil)))) .nil))) (.cons (.ret (.bl false))
  .nil) .nil)
  (.cons (.asg 7 (.meth (.var 2) "turned" (.cons (.var 6) .nil)))
  (.cons (.ret (.an (.cons (.cmp .eq (.ix (.var 7) (.int 0)) (.bin .add (.var 4) (.int 1))) (.cons (.cmp .eq (.sl (.var 7) (.some (.int 1)) .none) (.sl (.var 3) (.some (.int 1)) .none)) (.cons (.cmp .eq (.call "_law_things" (.cons (.var 3) .nil)) (.var 5)) .nil)))))
  .nil))))))))))))))⟩
def d_law_25 : Def := ⟨1, 0, ["_law_script", "_law_wood", "_law_amount_here", "_law_cell_here", "_law_plain", "_law_shelf", "_law_deeds", "_law_k", "_law_number", "_law_other"], (.cons (.asg 1 (.mk "Wood" .nil))
  (.cons (.asg 2 (.bin .mod (.call "_law_amount" (.cons (.call "_law_cell" (.cons (.var 0) (.cons (.int 1) .nil))) .nil)) (.int 61)))
  (.cons (.asg 3 (.call "_law_cell" (.cons (.var 0) (.cons (.int 2) .nil))))
  (.cons (.ifs (.cmp .eq (.bin .mod (.var 3) (.int 8)) (.int 3)) (.cons (.ret (.call "_law_full" (.cons (.mk "Shelf" (.cons (.var 1) (.cons (.bin .mul (.lst (.cons (.str "c") .nil)) (.bin .add (.int 1001) (.bin .mod (.bin .fdiv (.var 3) (.int 8)) (.int 1000)))) .nil))) (.cons (.var 1) (.cons (.call "_law_cell" (.cons (.var 0) (.cons (.int 3) .nil))) .nil)))))
  .nil) .nil)
  (.cons (.asg 4 (.lc true 8 (.seq (.call "_law_drawn" (.cons (.call "_law_cell" (.cons (.var 0) (.cons (.int 0) .nil))) (.cons (.var 2) .nil)))) .none (.call "_law_thing" (.cons (.var 8) (.cons (.bin .mod (.bin .fdiv (.var 8) (.int 7)) (.int 2)) .nil)))))
  (.cons (.asg 5 (.mk "Shelf" (.cons (.var 1) (.cons (.blt .list (.cons (.var 4) .nil)) .nil))))
  (.cons (.asg 6 (.lstC .nil))
  (.cons (.for1 7 (.rng (.int 12)) (.cons (.unp [8, 9] (.call "_law_drawn" (.cons (.call "_law_cell" (.cons (.var 0) (.cons (.bin .add (.int 4) (.var 7)) .nil))) (.cons (.int 2) .nil))))
  (.cons (.ifs (.nt (.call "_law_refused" (.cons (.var 5) (.cons (.bin .mod (.var 8) (.int 7)) (.cons (.bin .fdiv (.var 8) (.int 7)) (.cons (.blt .len (.cons (.var 4) .nil)) .nil)))))) (.cons (.ret (.bl false))
  .nil) .nil)
  (.cons (.ifs (.orr (.cons (.cmp .ne (.meth (.var 5) "things" .nil) (.var 4)) (.cons (.cmp .ne (.meth (.var 5) "deeds" .nil) (.var 6)) .nil))) (.cons (.ret (.bl false))
  .nil) .nil)
  (.cons (.ifs (.an (.cons (.cmp .eq (.bin .mod (.var 9) (.int 3)) (.int 0)) (.cons (.nt (.call "_law_deed" (.cons (.var 5) (.cons (.var 4) (.cons (.var 6) (.cons (.bin .fdiv (.var 9) (.int 3)) (.cons (.bin .mod (.var 7) (.int 2)) .nil))))))) .nil))) (.cons (.ret (.bl false))
  .nil) .nil)
  .nil)))))
  (.cons (.ret (.an (.cons (.cmp .eq (.meth (.var 5) "things" .nil) (.var 4)) (.cons (.cmp .eq (.meth (.var 5) "deeds" .nil) (.var 6)) .nil))))
  .nil)))))))))⟩
def d_leaning_left : Def := ⟨4, 0, ["wood", "left", "thing", "right", "ahead", "own", "amid", "first", "middle", "last"], (.cons (.unp [4, 5, 6] (.call "parts" (.cons (.var 0) (.cons (.var 1) .nil))))
  (.cons (.ifs (.cmp .ge (.call "height" (.cons (.var 4) .nil)) (.call "height" (.cons (.var 6) .nil))) (.cons (.ret (.meth (.var 0) "node" (.cons (.var 4) (.cons (.var 5) (.cons (.meth (.var 0) "node" (.cons (.var 6) (.cons (.var 2) (.cons (.var 3) .nil)))) .nil)))))
  .nil) .nil)
  (.cons (.unp [7, 8, 9] (.call "parts" (.cons (.var 0) (.cons (.var 6) .nil))))
  (.cons (.ret (.meth (.var 0) "node" (.cons (.meth (.var 0) "node" (.cons (.var 4) (.cons (.var 5) (.cons (.var 7) .nil)))) (.cons (.var 8) (.cons (.meth (.var 0) "node" (.cons (.var 9) (.cons (.var 2) (.cons (.var 3) .nil)))) .nil)))))
  .nil))))⟩
def d_leaning_right : Def := ⟨4, 0, ["wood", "left", "thing", "right", "amid", "own", "later", "first", "middle", "last"], (.cons (.unp [4, 5, 6] (.call "parts" (.cons (.var 0) (.cons (.var 3) .nil))))
  (.cons (.ifs (.cmp .ge (.call "height" (.cons (.var 6) .nil)) (.call "height" (.cons (.var 4) .nil))) (.cons (.ret (.meth (.var 0) "node" (.cons (.meth (.var 0) "node" (.cons (.var 1) (.cons (.var 2) (.cons (.var 4) .nil)))) (.cons (.var 5) (.cons (.var 6) .nil)))))
  .nil) .nil)
  (.cons (.unp [7, 8, 9] (.call "parts" (.cons (.var 0) (.cons (.var 4) .nil))))
  (.cons (.ret (.meth (.var 0) "node" (.cons (.meth (.var 0) "node" (.cons (.var 1) (.cons (.var 2) (.cons (.var 7) .nil)))) (.cons (.var 8) (.cons (.meth (.var 0) "node" (.cons (.var 9) (.cons (.var 5) (.cons (.var 6) .nil)))) .nil)))))
  .nil))))⟩
def d_list : Def := ⟨4, 0, ["_law_script", "_law_k", "_law_kind", "_law_long", "_law_many", "_law_j"], (.cons (.asg 4 (.bin .mod (.call "_law_mixed" (.cons (.var 0) (.cons (.var 1) .nil))) (.int 24)))
  (.cons (.ifs (.an (.cons (.var 3) (.cons (.cmp .eq (.bin .mod (.bin .fdiv (.call "_law_mixed" (.cons (.var 0) (.cons (.var 1) .nil))) (.int 24)) (.int 8)) (.int 3)) .nil))) (.cons (.asg 4 (.bin .add (.int 900) (.bin .mod (.call "_law_mixed" (.cons (.var 0) (.cons (.bin .add (.var 1) (.int 1)) .nil))) (.int 200))))
  .nil) .nil)
  (.cons (.ret (.lc false 5 (.rng (.var 4)) .none (.call "_law_thing" (.cons (.var 0) (.cons (.bin .add (.bin .add (.var 1) (.int 2)) (.var 5)) (.cons (.var 2) .nil))))))
  .nil)))⟩
def d_list_2 : Def := ⟨4, 0, ["_law_script", "_law_k", "_law_kind", "_law_long", "_law_many", "_law_j"], (.cons (.asg 4 (.bin .mod (.call "_law_mixed" (.cons (.var 0) (.cons (.var 1) .nil))) (.int 24)))
  (.cons (.ifs (.an (.cons (.var 3) (.cons (.cmp .eq (.bin .mod (.bin .fdiv (.call "_law_mixed" (.cons (.var 0) (.cons (.var 1) .nil))) (.int 24)) (.int 8)) (.int 3)) .nil))) (.cons (.asg 4 (.bin .add (.int 450) (.bin .mod (.call "_law_mixed" (.cons (.var 0) (.cons (.bin .add (.var 1) (.int 1)) .nil))) (.int 200))))
  .nil) .nil)
  (.cons (.ret (.lc false 5 (.rng (.var 4)) .none (.call "_law_thing" (.cons (.var 0) (.cons (.bin .add (.bin .add (.var 1) (.int 2)) (.var 5)) (.cons (.var 2) .nil))))))
  .nil)))⟩
def d_made_between : Def := ⟨4, 0, ["wood", "things", "start", "end", "middle", "left", "right"], (.cons (.ifs (.cmp .eq (.var 2) (.var 3)) (.cons (.ret .non)
  .nil) .nil)
  (.cons (.asg 4 (.bin .fdiv (.bin .add (.var 2) (.var 3)) (.int 2)))
  (.cons (.asg 5 (.call "made_between" (.cons (.var 0) (.cons (.var 1) (.cons (.var 2) (.cons (.var 4) .nil))))))
  (.cons (.asg 6 (.call "made_between" (.cons (.var 0) (.cons (.var 1) (.cons (.bin .add (.var 4) (.int 1)) (.cons (.var 3) .nil))))))
  (.cons (.ret (.meth (.var 0) "node" (.cons (.var 5) (.cons (.ix (.var 1) (.var 4)) (.cons (.var 6) .nil)))))
  .nil)))))⟩
def d_make_of : Def := ⟨2, 0, ["wood", "things"], (.cons (.ifs (.cmp .gt (.blt .len (.cons (.var 1) .nil)) (.con "MOST" 2000)) (.cons (.raise "TooMany")
  .nil) .nil)
  (.cons (.ret (.call "made_between" (.cons (.var 0) (.cons (.var 1) (.cons (.int 0) (.cons (.blt .len (.cons (.var 1) .nil)) .nil))))))
  .nil))⟩
def d_measures_right : Def := ⟨1, 0, ["make", "left", "right"], (.cons (.asg 1 (.ix (.var 0) (.int 2)))
  (.cons (.asg 2 (.ix (.var 0) (.int 4)))
  (.cons (.ifs (.orr (.cons (.cmp .ne (.ix (.var 0) (.int 5)) (.bin .add (.bin .add (.call "size" (.cons (.var 1) .nil)) (.call "size" (.cons (.var 2) .nil))) (.int 1))) (.cons (.cmp .ne (.ix (.var 0) (.int 6)) (.bin .add (.int 1) (.blt .max (.cons (.call "height" (.cons (.var 1) .nil)) (.cons (.call "height" (.cons (.var 2) .nil)) .nil))))) .nil))) (.cons (.ret (.bl false))
  .nil) .nil)
  (.cons (.ret (.cmp .lt (.blt .abs (.cons (.bin .sub (.call "height" (.cons (.var 1) .nil)) (.call "height" (.cons (.var 2) .nil))) .nil)) (.int 2)))
  .nil))))⟩
def d_mixed : Def := ⟨2, 0, ["_law_script", "_law_k", "_law_number", "_law_root"], (.cons (.asg 2 (.bin .add (.var 1) (.int 3)))
  (.cons (.ifs (.cmp .gt (.blt .len (.cons (.var 0) .nil)) (.int 0)) (.cons (.asg 2 (.bin .add (.var 2) (.bin .mul (.bin .mod (.ix (.var 0) (.bin .mod (.var 1) (.blt .len (.cons (.var 0) .nil)))) (.bin .pow (.int 10) (.int 64))) (.bin .add (.bin .fdiv (.var 1) (.blt .len (.cons (.var 0) .nil))) (.int 1)))))
  .nil) .nil)
  (.cons (.asg 3 (.bin .mul (.var 2) (.int 6364136223846793005)))
  (.cons (.ret (.bin .fdiv (.bin .mul (.bin .mul (.var 3) (.var 3)) (.var 3)) (.int 1000003)))
  .nil))))⟩
def d_mixed_2 : Def := ⟨2, 0, ["_law_cell_here", "_law_k", "_law_number"], (.cons (.asg 2 (.bin .mod (.bin .mul (.bin .add (.bin .mod (.var 0) (.int 2147483647)) (.int 1)) (.bin .add (.bin .mul (.var 1) (.var 1)) (.int 48271))) (.int 2147483629)))
  (.cons (.ret (.bin .mod (.bin .mul (.var 2) (.bin .add (.var 2) (.var 1))) (.int 2147483587)))
  .nil))⟩
def d_more : Def := ⟨3, 0, ["_law_shelf", "_law_other", "_law_place", "_law_caught", "e"], (.cons (.asg 3 .non)
  (.cons (.tryK "ShelfError" 4 3 [("NoBalance", true), ("NoPlace", true), ("TooMany", true)] (.cons (.ifs (.cmp .is (.var 1) .non) (.cons (.expr (.meth (.var 0) "put" (.cons (.var 2) (.cons (.str "a") .nil))))
  .nil) (.cons (.expr (.meth (.var 0) "laid" (.cons (.var 1) .nil)))
  .nil))
  .nil))
  (.cons (.ret (.call "_law_kind_of" (.cons (.var 3) .nil)))
  .nil)))⟩
def d_not_made : Def := ⟨1, 0, ["_law_wood", "_law_caught", "e"], (.cons (.asg 1 .non)
  (.cons (.tryK "ShelfError" 2 1 [("NoBalance", true), ("NoPlace", true), ("TooMany", true)] (.cons (.expr (.mk "Shelf" (.cons (.var 0) (.cons (.bin .mul (.lst (.cons (.str "x") .nil)) (.int 2001)) .nil))))
  .nil))
  (.cons (.ret (.cmp .eq (.call "_law_kind_of" (.cons (.var 1) .nil)) (.str "many")))
  .nil)))⟩
def d_out : Def := ⟨3, 0, ["wood", "make", "place"], (.cons (.expr (.call "ask_place" (.cons (.var 2) (.cons (.int 0) (.cons (.bin .sub (.call "size" (.cons (.var 1) .nil)) (.int 1)) .nil)))))
  (.cons (.ret (.call "taken_out" (.cons (.var 0) (.cons (.var 1) (.cons (.var 2) .nil)))))
  .nil))⟩
def d_part : Def := ⟨4, 0, ["wood", "make", "start", "end"], (.cons (.expr (.call "ask_stretch" (.cons (.var 1) (.cons (.var 2) (.cons (.var 3) .nil)))))
  (.cons (.ret (.ix (.call "cut_at" (.cons (.var 0) (.cons (.ix (.call "cut_at" (.cons (.var 0) (.cons (.var 1) (.cons (.var 3) .nil)))) (.int 0)) (.cons (.var 2) .nil)))) (.int 1)))
  .nil))⟩
def d_parts : Def := ⟨2, 0, ["wood", "make", "about", "left"], (.cons (.asg 2 (.ix (.var 1) (.int 1)))
  (.cons (.ifs (.var 2) (.cons (.asg 3 (.meth (.var 0) "turned" (.cons (.ix (.var 1) (.int 4)) .nil)))
  (.cons (.ret (.tup (.cons (.var 3) (.cons (.ix (.var 1) (.int 3)) (.cons (.meth (.var 0) "turned" (.cons (.ix (.var 1) (.int 2)) .nil)) .nil)))))
  .nil)) .nil)
  (.cons (.ret (.tup (.cons (.ix (.var 1) (.int 2)) (.cons (.ix (.var 1) (.int 3)) (.cons (.ix (.var 1) (.int 4)) .nil)))))
  .nil)))⟩
def d_put : Def := ⟨4, 0, ["wood", "make", "place", "thing"], (.cons (.expr (.call "ask_place" (.cons (.var 2) (.cons (.int 0) (.cons (.call "size" (.cons (.var 1) .nil)) .nil)))))
  (.cons (.ifs (.cmp .eq (.call "size" (.cons (.var 1) .nil)) (.con "MOST" 2000)) (.cons (.raise "TooMany")
  .nil) .nil)
  (.cons (.ret (.call "put_in" (.cons (.var 0) (.cons (.var 1) (.cons (.var 2) (.cons (.var 3) .nil))))))
  .nil)))⟩
def d_put_in : Def := ⟨4, 0, ["wood", "make", "place", "thing", "left", "own", "right"], (.cons (.ifs (.cmp .is (.var 1) .non) (.cons (.ret (.meth (.var 0) "node" (.cons .non (.cons (.var 3) (.cons .non .nil)))))
  .nil) .nil)
  (.cons (.unp [4, 5, 6] (.call "parts" (.cons (.var 0) (.cons (.var 1) .nil))))
  (.cons (.ifs (.cmp .le (.var 2) (.call "size" (.cons (.var 4) .nil))) (.cons (.ret (.call "evened" (.cons (.var 0) (.cons (.call "put_in" (.cons (.var 0) (.cons (.var 4) (.cons (.var 2) (.cons (.var 3) .nil))))) (.cons (.var 5) (.cons (.var 6) .nil))))))
  .nil) .nil)
  (.cons (.ret (.call "evened" (.cons (.var 0) (.cons (.var 4) (.cons (.var 5) (.cons (.call "put_in" (.cons (.var 0) (.cons (.var 6) (.cons (.bin .sub (.bin .sub (.var 2) (.call "size" (.cons (.var 4) .nil))) (.int 1)) (.cons (.var 3) .nil))))) .nil))))))
  .nil))))⟩
def d_refused : Def := ⟨2, 0, ["_law_make", "_law_place", "_law_caught", "e"], (.cons (.asg 2 .non)
  (.cons (.tryK "ShelfError" 3 2 [("NoBalance", true), ("NoPlace", true), ("TooMany", true)] (.cons (.expr (.call "at" (.cons (.var 0) (.cons (.var 1) .nil))))
  .nil))
  (.cons (.ifs (.orr (.cons (.cmp .is (.var 2) .non) (.cons (.nt (.isE (.var 2) "NoPlace" [("NoBalance", false), ("NoPlace", true), ("TooMany", false)])) (.cons (.nt (.isE (.var 2) "ValueError" [("NoBalance", true), ("NoPlace", true), ("TooMany", true)])) .nil)))) (.cons (.ret (.bl false))
  .nil) .nil)
  (.cons (.ret (.an (.cons (.nt (.isE (.var 2) "TooMany" [("NoBalance", false), ("NoPlace", false), ("TooMany", true)])) (.cons (.nt (.isE (.var 2) "NoThing" [("NoBalance", false), ("NoPlace", false), ("TooMany", false)])) .nil))))
  .nil))))⟩
def d_refused_2 : Def := ⟨4, 0, ["_law_shelf", "_law_way", "_law_number", "_law_many", "_law_caught", "e"], (.cons (.asg 4 .non)
  (.cons (.tryK "ShelfError" 5 4 [("NoBalance", true), ("NoPlace", true), ("TooMany", true)] (.cons (.expr (.call "_law_bad" (.cons (.var 0) (.cons (.var 1) (.cons (.var 2) (.cons (.var 3) .nil))))))
  .nil))
  (.cons (.ret (.cmp .eq (.call "_law_kind_of" (.cons (.var 4) .nil)) (.str "place")))
  .nil)))⟩
def d_size : Def := ⟨1, 0, ["make"], (.cons (.ifs (.cmp .is (.var 0) .non) (.cons (.ret (.int 0))
  .nil) .nil)
  (.cons (.ret (.ix (.var 0) (.int 5)))
  .nil))⟩
def d_sum : Def := ⟨2, 0, ["_law_kind", "_law_things_here", "_law_found", "_law_thing_here"], (.cons (.ifs (.orr (.cons (.cmp .eq (.var 0) (.int 0)) (.cons (.cmp .eq (.var 1) (.lst .nil)) .nil))) (.cons (.ret .non)
  .nil) .nil)
  (.cons (.asg 2 (.ix (.var 1) (.int 0)))
  (.cons (.for1 3 (.seq (.sl (.var 1) (.some (.int 1)) .none)) (.cons (.asg 2 (.callc (.call "_law_adding" (.cons (.var 0) .nil)) (.cons (.var 2) (.cons (.var 3) .nil))))
  .nil))
  (.cons (.ret (.var 2))
  .nil))))⟩
def d_sums_of : Def := ⟨4, 0, ["adding", "left", "thing", "right", "forth", "turned"], (.cons (.ifs (.cmp .is (.var 0) .non) (.cons (.ret (.tup (.cons .non (.cons .non .nil))))
  .nil) .nil)
  (.cons (.asg 4 (.var 2))
  (.cons (.asg 5 (.var 2))
  (.cons (.ifs (.cmp .isn (.var 1) .non) (.cons (.asg 4 (.callv 0 (.cons (.call "total" (.cons (.var 1) .nil)) (.cons (.var 4) .nil))))
  (.cons (.asg 5 (.callv 0 (.cons (.var 5) (.cons (.call "back" (.cons (.var 1) .nil)) .nil))))
  .nil)) .nil)
  (.cons (.ifs (.cmp .isn (.var 3) .non) (.cons (.asg 4 (.callv 0 (.cons (.var 4) (.cons (.call "total" (.cons (.var 3) .nil)) .nil))))
  (.cons (.asg 5 (.callv 0 (.cons (.call "back" (.cons (.var 3) .nil)) (.cons (.var 5) .nil))))
  .nil)) .nil)
  (.cons (.ret (.tup (.cons (.var 4) (.cons (.var 5) .nil))))
  .nil))))))⟩
def d_swapped : Def := ⟨4, 0, ["wood", "make", "place", "thing"], (.cons (.expr (.call "ask_place" (.cons (.var 2) (.cons (.int 0) (.cons (.bin .sub (.call "size" (.cons (.var 1) .nil)) (.int 1)) .nil)))))
  (.cons (.ret (.call "swapped_in" (.cons (.var 0) (.cons (.var 1) (.cons (.var 2) (.cons (.var 3) .nil))))))
  .nil))⟩
def d_swapped_in : Def := ⟨4, 0, ["wood", "make", "place", "thing", "left", "own", "right"], (.cons (.unp [4, 5, 6] (.call "parts" (.cons (.var 0) (.cons (.var 1) .nil))))
  (.cons (.ifs (.cmp .eq (.var 2) (.call "size" (.cons (.var 4) .nil))) (.cons (.ret (.meth (.var 0) "node" (.cons (.var 4) (.cons (.var 3) (.cons (.var 6) .nil)))))
  .nil) .nil)
  (.cons (.ifs (.cmp .lt (.var 2) (.call "size" (.cons (.var 4) .nil))) (.cons (.ret (.meth (.var 0) "node" (.cons (.call "swapped_in" (.cons (.var 0) (.cons (.var 4) (.cons (.var 2) (.cons (.var 3) .nil))))) (.cons (.var 5) (.cons (.var 6) .nil)))))
  .nil) .nil)
  (.cons (.ret (.meth (.var 0) "node" (.cons (.var 4) (.cons (.var 5) (.cons (.call "swapped_in" (.cons (.var 0) (.cons (.var 6) (.cons (.bin .sub (.bin .sub (.var 2) (.call "size" (.cons (.var 4) .nil))) (.int 1)) (.cons (.var 3) .nil))))) .nil)))))
  .nil))))⟩
def d_taken_out : Def := ⟨3, 0, ["wood", "make", "place", "left", "own", "right"], (.cons (.unp [3, 4, 5] (.call "parts" (.cons (.var 0) (.cons (.var 1) .nil))))
  (.cons (.ifs (.cmp .eq (.var 2) (.call "size" (.cons (.var 3) .nil))) (.cons (.ret (.call "both" (.cons (.var 0) (.cons (.var 3) (.cons (.var 5) .nil)))))
  .nil) .nil)
  (.cons (.ifs (.cmp .lt (.var 2) (.call "size" (.cons (.var 3) .nil))) (.cons (.ret (.call "evened" (.cons (.var 0) (.cons (.call "taken_out" (.cons (.var 0) (.cons (.var 3) (.cons (.var 2) .nil)))) (.cons (.var 4) (.cons (.var 5) .nil))))))
  .nil) .nil)
  (.cons (.ret (.call "evened" (.cons (.var 0) (.cons (.var 3) (.cons (.var 4) (.cons (.call "taken_out" (.cons (.var 0) (.cons (.var 5) (.cons (.bin .sub (.bin .sub (.var 2) (.call "size" (.cons (.var 3) .nil))) (.int 1)) .nil)))) .nil))))))
  .nil))))⟩
def d_thing : Def := ⟨3, 0, ["_law_script", "_law_k", "_law_kind", "_law_number", "_law_letters", "_law_wide", "_law_j"], (.cons (.asg 3 (.call "_law_mixed" (.cons (.var 0) (.cons (.var 1) .nil))))
  (.cons (.ifs (.orr (.cons (.cmp .eq (.var 2) (.int 2)) (.cons (.an (.cons (.cmp .eq (.var 2) (.int 0)) (.cons (.cmp .eq (.bin .mod (.var 3) (.int 2)) (.int 1)) .nil))) .nil))) (.cons (.asg 4 (.str "abcdefgh ijklmnopqrstuvwxyz"))
  (.cons (.ret (.join (.str "") (.lc false 6 (.rng (.bin .mod (.bin .fdiv (.var 3) (.int 7)) (.int 9))) .none (.ix (.var 4) (.bin .mod (.bin .fdiv (.var 3) (.bin .add (.bin .mul (.int 3) (.var 6)) (.int 5))) (.int 27))))))
  .nil)) .nil)
  (.cons (.ifs (.cmp .eq (.var 2) (.int 3)) (.cons (.ret (.tup (.cons (.bin .mod (.bin .fdiv (.var 3) (.int 3)) (.int 1000003)) (.cons (.bin .mod (.bin .fdiv (.var 3) (.int 11)) (.int 1000003)) .nil))))
  .nil) .nil)
  (.cons (.asg 5 (.ix (.lst (.cons (.int 9) (.cons (.int 1000) (.cons (.bin .pow (.int 10) (.int 60)) .nil)))) (.bin .mod (.bin .fdiv (.var 3) (.int 5)) (.int 3))))
  (.cons (.ret (.bin .sub (.bin .mod (.bin .fdiv (.var 3) (.int 15)) (.bin .sub (.bin .mul (.int 2) (.var 5)) (.int 1))) (.bin .sub (.var 5) (.int 1))))
  .nil)))))⟩
def d_thing_2 : Def := ⟨2, 0, ["_law_script", "_law_cell_here", "_law_way_here", "_law_k"], (.cons (.asg 2 (.bin .mod (.call "_law_cell" (.cons (.var 0) (.cons (.int 0) .nil))) (.int 4)))
  (.cons (.ifs (.cmp .eq (.var 2) (.int 2)) (.cons (.ret (.tup (.cons (.bin .mod (.call "_law_mixed" (.cons (.var 1) (.cons (.int 1) .nil))) (.int 1000003)) (.cons (.bin .mod (.call "_law_mixed" (.cons (.var 1) (.cons (.int 2) .nil))) (.int 1000003)) .nil))))
  .nil) .nil)
  (.cons (.ifs (.an (.cons (.cmp .eq (.var 2) (.int 0)) (.cons (.cmp .eq (.bin .mod (.var 1) (.int 2)) (.int 0)) .nil))) (.cons (.ret (.bin .sub (.bin .mod (.bin .mul (.bin .fdiv (.var 1) (.int 2)) (.int 982451653)) (.int 1000000000000000000007)) (.int 500)))
  .nil) .nil)
  (.cons (.ret (.join (.str "") (.lc false 3 (.rng (.bin .add (.int 1) (.bin .mod (.bin .fdiv (.var 1) (.int 2)) (.int 3)))) .none (.ix (.str "abcdefgh") (.bin .mod (.call "_law_mixed" (.cons (.var 1) (.cons (.var 3) .nil))) (.int 8))))))
  .nil))))⟩
def d_thing_7 : Def := ⟨2, 0, ["_law_number", "_law_kind", "_law_great"], (.cons (.ifs (.cmp .eq (.var 1) (.int 0)) (.cons (.ret (.bin .mul (.ix (.str "abcdefghijklmnopqrstuvwxyz") (.bin .mod (.var 0) (.int 26))) (.bin .add (.int 1) (.bin .mod (.bin .fdiv (.var 0) (.int 26)) (.int 3)))))
  .nil) .nil)
  (.cons (.ifs (.cmp .eq (.var 1) (.int 1)) (.cons (.asg 2 (.bin .sub (.bin .mod (.bin .mul (.var 0) (.bin .pow (.int 10) (.int 50))) (.bin .add (.bin .mul (.int 2) (.bin .pow (.int 10) (.int 59))) (.int 1))) (.bin .pow (.int 10) (.int 59))))
  (.cons (.ret (.ix (.lst (.cons (.bin .sub (.bin .mod (.var 0) (.int 7)) (.int 3)) (.cons (.var 2) (.cons (.var 0) (.cons (.int 0) .nil))))) (.bin .mod (.bin .fdiv (.var 0) (.int 7)) (.int 4))))
  .nil)) .nil)
  (.cons (.ifs (.cmp .eq (.var 1) (.int 2)) (.cons (.ret (.tup (.cons (.bin .mod (.var 0) (.int 1009)) (.cons (.bin .mod (.bin .fdiv (.var 0) (.int 1009)) (.int 1009)) .nil))))
  .nil) .nil)
  (.cons (.ret (.bin .mod (.var 0) (.int 9)))
  .nil))))⟩
def d_things : Def := ⟨1, 0, ["_law_make", "_law_found"], (.cons (.ifs (.cmp .is (.var 0) .non) (.cons (.ret (.lst .nil))
  .nil) .nil)
  (.cons (.asg 1 (.bin .add (.bin .add (.call "_law_things" (.cons (.ix (.var 0) (.int 2)) .nil)) (.lst (.cons (.ix (.var 0) (.int 3)) .nil))) (.call "_law_things" (.cons (.ix (.var 0) (.int 4)) .nil))))
  (.cons (.ifs (.ix (.var 0) (.int 1)) (.cons (.ret (.rev (.var 1)))
  .nil) .nil)
  (.cons (.ret (.var 1))
  .nil))))⟩
def d_things_of : Def := ⟨1, 0, ["make", "found", "todo", "one", "around", "turned", "some"], (.cons (.asg 1 (.lstC .nil))
  (.cons (.asg 2 (.lstC (.cons (.tup (.cons (.var 0) (.cons (.bl false) .nil))) .nil)))
  (.cons (.whl (.cmp .ne (.var 2) (.lst .nil)) (.cons (.unp [3, 4] (.pop (.var 2)))
  (.cons (.ifs (.blt (.isin "list") (.cons (.var 3) .nil)) (.cons (.app (.var 1) (.ix (.var 3) (.int 0)))
  .nil) (.cons (.ifs (.cmp .isn (.var 3) .non) (.cons (.asg 5 (.cmp .ne (.var 4) (.ix (.var 3) (.int 1))))
  (.cons (.asg 6 (.lst (.cons (.tup (.cons (.ix (.var 3) (.int 4)) (.cons (.var 5) .nil))) (.cons (.tup (.cons (.lst (.cons (.ix (.var 3) (.int 3)) .nil)) (.cons (.bl false) .nil))) (.cons (.tup (.cons (.ix (.var 3) (.int 2)) (.cons (.var 5) .nil))) .nil)))))
  (.cons (.ifs (.var 5) (.cons (.asg 6 (.lst (.cons (.ix (.var 6) (.int 2)) (.cons (.ix (.var 6) (.int 1)) (.cons (.ix (.var 6) (.int 0)) .nil)))))
  .nil) .nil)
  (.cons (.asg 2 (.bin .addC (.var 2) (.var 6)))
  .nil)))) .nil)
  .nil))
  .nil)))
  (.cons (.ret (.var 1))
  .nil))))⟩
def d_things_of_2 : Def := ⟨1, 0, ["make", "found", "todo", "one", "around", "turned", "some"], (.cons (.asg 1 (.lstC .nil))
  (.cons (.asg 2 (.lstC (.cons (.tup (.cons (.var 0) (.cons (.bl false) .nil))) .nil)))
  (.cons (.whl (.cmp .ne (.var 2) (.lst .nil)) (.cons (.unp [3, 4] (.pop (.var 2)))
  (.cons (.ifs (.blt (.isin "list") (.cons (.var 3) .nil)) (.cons (.app (.var 1) (.ix (.var 3) (.int 0)))
  .nil) (.cons (.ifs (.cmp .isn (.var 3) .non) (.cons (.asg 5 (.cmp .ne (.var 4) (.ix (.var 3) (.int 1))))
  (.cons (.asg 6 (.lst (.cons (.tup (.cons (.ix (.var 3) (.int 4)) (.cons (.var 5) .nil))) (.cons (.tup (.cons (.lst (.cons (.ix (.var 3) (.int 3)) .nil)) (.cons (.bl false) .nil))) (.cons (.tup (.cons (.ix (.var 3) (.int 2)) (.cons (.var 5) .nil))) .nil)))))
  (.cons (.ifs (.var 5) (.cons (.asg 6 (.lst (.cons (.ix (.var 6) (.int 2)) (.cons (.ix (.var 6) (.int 1)) (.cons (.ix (.var 6) (.int 0)) .nil)))))
  .nil) .nil)
  (.cons (.asg 2 (.bin .addC (.var 2) (.var 6)))
  .nil)))) .nil)
  .nil))
  .nil)))
  (.cons (.retF 1)
  .nil))))⟩
def d_total : Def := ⟨1, 0, ["make"], (.cons (.ifs (.cmp .is (.var 0) .non) (.cons (.ret .non)
  .nil) .nil)
  (.cons (.ret (.ix (.var 0) (.int 7)))
  .nil))⟩
def d_turned_part : Def := ⟨4, 0, ["wood", "make", "start", "end", "front", "later", "ahead", "amid"], (.cons (.expr (.call "ask_stretch" (.cons (.var 1) (.cons (.var 2) (.cons (.var 3) .nil)))))
  (.cons (.unp [4, 5] (.call "cut_at" (.cons (.var 0) (.cons (.var 1) (.cons (.var 3) .nil)))))
  (.cons (.unp [6, 7] (.call "cut_at" (.cons (.var 0) (.cons (.var 4) (.cons (.var 2) .nil)))))
  (.cons (.ret (.call "both" (.cons (.var 0) (.cons (.call "both" (.cons (.var 0) (.cons (.var 6) (.cons (.meth (.var 0) "turned" (.cons (.var 7) .nil)) .nil)))) (.cons (.var 5) .nil)))))
  .nil))))⟩
def d_walk_3 : Def := ⟨2, 0, ["_law_make", "_law_kind", "_law_left", "_law_right", "_law_forth", "_law_turned", "_law_things", "_law_high"], (.cons (.ifs (.cmp .is (.var 0) .non) (.cons (.ret (.lst (.cons (.int 0) (.cons (.lst .nil) (.cons .non (.cons .non .nil))))))
  .nil) .nil)
  (.cons (.asg 2 (.call "_law_walk" (.cons (.ix (.var 0) (.int 2)) (.cons (.var 1) .nil))))
  (.cons (.asg 3 (.call "_law_walk" (.cons (.ix (.var 0) (.int 4)) (.cons (.var 1) .nil))))
  (.cons (.ifs (.orr (.cons (.cmp .is (.var 2) .non) (.cons (.cmp .is (.var 3) .non) (.cons (.cmp .gt (.blt .abs (.cons (.bin .sub (.ix (.var 2) (.int 0)) (.ix (.var 3) (.int 0))) .nil)) (.int 1)) (.cons (.nt (.blt (.isin "bool") (.cons (.ix (.var 0) (.int 1)) .nil))) .nil))))) (.cons (.ret .non)
  .nil) .nil)
  (.cons (.asg 4 (.ix (.var 0) (.int 3)))
  (.cons (.asg 5 (.ix (.var 0) (.int 3)))
  (.cons (.ifs (.an (.cons (.cmp .gt (.var 1) (.int 0)) (.cons (.cmp .isn (.ix (.var 0) (.int 2)) .non) .nil))) (.cons (.asg 4 (.callc (.call "_law_adding" (.cons (.var 1) .nil)) (.cons (.ix (.var 2) (.int 2)) (.cons (.var 4) .nil))))
  (.cons (.asg 5 (.callc (.call "_law_adding" (.cons (.var 1) .nil)) (.cons (.var 5) (.cons (.ix (.var 2) (.int 3)) .nil))))
  .nil)) .nil)
  (.cons (.ifs (.an (.cons (.cmp .gt (.var 1) (.int 0)) (.cons (.cmp .isn (.ix (.var 0) (.int 4)) .non) .nil))) (.cons (.asg 4 (.callc (.call "_law_adding" (.cons (.var 1) .nil)) (.cons (.var 4) (.cons (.ix (.var 3) (.int 2)) .nil))))
  (.cons (.asg 5 (.callc (.call "_law_adding" (.cons (.var 1) .nil)) (.cons (.ix (.var 3) (.int 3)) (.cons (.var 5) .nil))))
  .nil)) .nil)
  (.cons (.asg 6 (.bin .add (.bin .add (.ix (.var 2) (.int 1)) (.lst (.cons (.ix (.var 0) (.int 3)) .nil))) (.ix (.var 3) (.int 1))))
  (.cons (.ifs (.cmp .eq (.var 1) (.int 0)) (.cons (.asg 4 .non)
  (.cons (.asg 5 .non)
  .nil)) .nil)
  (.cons (.ifs (.ix (.var 0) (.int 1)) (.cons (.asg 6 (.rev (.var 6)))
  (.cons (.par 4 5 (.var 5) (.var 4))
  .nil)) .nil)
  (.cons (.asg 7 (.bin .add (.int 1) (.blt .max (.cons (.ix (.var 2) (.int 0)) (.cons (.ix (.var 3) (.int 0)) .nil)))))
  (.cons (.ifs (.cmp .ne (.sl (.var 0) (.some (.int 5)) .none) (.tup (.cons (.blt .len (.cons (.var 6) .nil)) (.cons (.var 7) (.cons (.var 4) (.cons (.var 5) .nil)))))) (.cons (.ret .non)
  .nil) .nil)
  (.cons (.ret (.lst (.cons (.var 7) (.cons (.var 6) (.cons (.var 4) (.cons (.var 5) .nil))))))
  .nil))))))))))))))⟩
def d_wall : Def := ⟨1, 0, ["k"], (.cons (.whl (.bl true) (.cons .pass
  .nil))
  .nil)⟩
def d_way : Def := ⟨1, 0, ["_law_script"], (.cons (.ret (.ix (.lst (.cons .non (.cons (.fn "_law_joined") (.cons (.fn "_law_behind") (.cons (.fn "_law_joined") .nil))))) (.bin .mod (.call "_law_cell" (.cons (.var 0) (.cons (.int 0) .nil))) (.int 4))))
  .nil)⟩
def d_whole : Def := ⟨1, 0, ["_law_found"], (.cons (.ret (.an (.cons (.blt (.isin "int") (.cons (.var 0) .nil)) (.cons (.nt (.blt (.isin "bool") (.cons (.var 0) .nil))) .nil))))
  .nil)⟩
def d_without_last : Def := ⟨2, 0, ["wood", "make", "left", "own", "right", "rest", "last"], (.cons (.unp [2, 3, 4] (.call "parts" (.cons (.var 0) (.cons (.var 1) .nil))))
  (.cons (.ifs (.cmp .is (.var 4) .non) (.cons (.ret (.tup (.cons (.var 2) (.cons (.var 3) .nil))))
  .nil) .nil)
  (.cons (.unp [5, 6] (.call "without_last" (.cons (.var 0) (.cons (.var 4) .nil))))
  (.cons (.ret (.tup (.cons (.call "evened" (.cons (.var 0) (.cons (.var 2) (.cons (.var 3) (.cons (.var 5) .nil))))) (.cons (.var 6) .nil))))
  .nil))))⟩
end MP
/-! M0: the meaning by steps, for simp. -/
namespace MP
open PySem

theorem str_inj {a b : String} : Str.ofString a = Str.ofString b ↔ a = b := by
  constructor
  · intro h
    rw [Str.ofString_eq_toList, Str.ofString_eq_toList] at h
    have h2 : a.toList.map Char.toNat = b.toList.map Char.toNat := by
      have := congrArg Str.cps h
      simpa using this
    have h3 : a.toList = b.toList := by
      have inj : ∀ (l m : List Char), l.map Char.toNat = m.map Char.toNat → l = m := by
        intro l
        induction l with
        | nil => intro m h; cases m with | nil => rfl | cons _ _ => cases h
        | cons x l ih =>
          intro m h
          cases m with
          | nil => cases h
          | cons y m =>
            simp only [List.map_cons, List.cons.injEq] at h
            obtain ⟨h1, h2⟩ := h
            rw [ih m h2]
            have : x = y := Char.ext (UInt32.toNat_inj.mp h1)
            rw [this]
      exact inj _ _ h2
    exact String.ext h3
  · intro h; rw [h]
@[simp] theorem str_inj' {a b : String} : (Str.ofString a = Str.ofString b) = (a = b) := propext str_inj
@[simp] theorem str_beq {a b : String} : (Str.ofString a == Str.ofString b) = decide (a = b) := by
  by_cases h : a = b
  · subst h; simp
  · have : Str.ofString a ≠ Str.ofString b := fun e => h (str_inj.mp e)
    simp [h, this]

@[simp] theorem bind_ok {α β : Type} {a : α} {s : Sto} {k : α → Sto → Res β} : (Res.ok a s).bind k = k a s := rfl
@[simp] theorem bind_exc {α β : Type} {x : Exn} {s : Sto} {k : α → Sto → Res β} : (Res.exc x s).bind k = .exc x s := rfl
@[simp] theorem bind_bad {α β : Type} {k : α → Sto → Res β} : Res.bind (.bad : Res α) k = .bad := rfl
@[simp] theorem noexc_ok {α : Type} {p : Prop} {a : α} {s : Sto} : (Res.ok a s).noexc p = .ok a s := rfl
theorem noexc_exc {α : Type} {p : Prop} {x : Exn} {s : Sto} (h : p) : (Res.exc x s : Res α).noexc p = .exc x s := if_pos h
@[simp] theorem thenS_ok {α : Type} {a : α} {s : Sto} {δ : Env} {k : α → Sto → SO} : thenS (.ok a s) δ k = k a s := rfl
@[simp] theorem thenS_exc {α : Type} {x : Exn} {s : Sto} {δ : Env} {k : α → Sto → SO} : thenS (.exc x s) δ k = .exc x δ s := rfl
@[simp] theorem nx_then {δ : Env} {s : Sto} {k : Env → Sto → SO} : (SO.nx δ s).andThen k = k δ s := rfl
@[simp] theorem rt_then {d : D} {s : Sto} {k : Env → Sto → SO} : (SO.rt d s).andThen k = .rt d s := rfl
@[simp] theorem exc_then {x : Exn} {δ : Env} {s : Sto} {k : Env → Sto → SO} : (SO.exc x δ s).andThen k = .exc x δ s := rfl
@[simp] theorem endS_nx {δ : Env} {s : Sto} : endS (.nx δ s) = .ok .non s := rfl
@[simp] theorem endS_rt {d : D} {s : Sto} : endS (.rt d s) = .ok d s := rfl
@[simp] theorem endS_exc {x : Exn} {δ : Env} {s : Sto} : endS (.exc x δ s) = .exc x s := rfl
@[simp] theorem okO_some {d : D} {s : Sto} : okO (some d) s = .ok d s := rfl
@[simp] theorem optS_some {s : Sto} {δ : Env} : optS (some s) δ = .nx δ s := rfl

section
variable {F : Fn} {δ : Env} {s : Sto}
@[simp] theorem evE_var {i : Nat} : evE F (.var i) δ s = getV δ i s := rfl
@[simp] theorem evE_non : evE F .non δ s = .ok .non s := rfl
@[simp] theorem evE_bl {b : Bool} : evE F (.bl b) δ s = .ok (.bl b) s := rfl
@[simp] theorem evE_int {i : Int} : evE F (.int i) δ s = .ok (.int i) s := rfl
@[simp] theorem evE_str {x : Str} : evE F (.str x) δ s = .ok (.str x) s := rfl
@[simp] theorem evE_fn {x : Str} : evE F (.fn x) δ s = .ok (.fn x) s := rfl
@[simp] theorem evE_con {x : Str} {i : Int} : evE F (.con x i) δ s = .ok (.int i) s := rfl
@[simp] theorem evE_bin {op : Bop} {a b : E} : evE F (.bin op a b) δ s = (evE F a δ s).bind fun x s1 => (evE F b δ s1).bind fun y s2 => binD op x y s2 := rfl
@[simp] theorem evE_neg {a : E} : evE F (.neg a) δ s = (evE F a δ s).bind fun x s1 => match x with | .int i => .ok (.int (-i)) s1 | _ => .bad := rfl
@[simp] theorem evE_nt {a : E} : evE F (.nt a) δ s = (evE F a δ s).bind fun x s1 => match x with | .bl c => .ok (.bl (!c)) s1 | _ => .bad := rfl
@[simp] theorem evE_an {es : Es} : evE F (.an es) δ s = evAnd F es δ s := rfl
@[simp] theorem evE_orr {es : Es} : evE F (.orr es) δ s = evOr F es δ s := rfl
@[simp] theorem evE_cmp {op : Cop} {a b : E} : evE F (.cmp op a b) δ s = (evE F a δ s).bind fun x s1 => (evE F b δ s1).bind fun y s2 => cmpD op x y s2 := rfl
@[simp] theorem evE_chn {op op' : Cop} {a b c : E} : evE F (.chn op op' a b c) δ s = (evE F a δ s).bind fun x s1 => (evE F b δ s1).bind fun y s2 => (cmpD op x y s2).bind fun k s3 => match k with
    | .bl true => (evE F c δ s3).bind fun z s4 => cmpD op' y z s4
    | .bl false => .ok (.bl false) s3
    | _ => .bad := rfl
@[simp] theorem evE_chn3 {op op' op'' : Cop} {a b c d : E} : evE F (.chn3 op op' op'' a b c d) δ s = (evE F a δ s).bind fun x s1 => (evE F b δ s1).bind fun y s2 => (cmpD op x y s2).bind fun k s3 => match k with
    | .bl true => (evE F c δ s3).bind fun z s4 => (cmpD op' y z s4).bind fun k s5 => match k with
      | .bl true => (evE F d δ s5).bind fun u s6 => cmpD op'' z u s6
      | .bl false => .ok (.bl false) s5
      | _ => .bad
    | .bl false => .ok (.bl false) s3
    | _ => .bad := rfl
@[simp] theorem evE_revL {a : E} : evE F (.revL a) δ s = (evE F a δ s).bind fun x s1 => revD x s1 := rfl
@[simp] theorem evE_ife {c a b : E} : evE F (.ife c a b) δ s = (evE F c δ s).bind fun k s1 => match k with
    | .bl true => evE F a δ s1
    | .bl false => evE F b δ s1
    | _ => .bad := rfl
@[simp] theorem evE_ix {a b : E} : evE F (.ix a b) δ s = (evE F a δ s).bind fun x s1 => (evE F b δ s1).bind fun y s2 => ixD x y s2 := rfl
@[simp] theorem evE_sl {a : E} {lo hi : Eo} : evE F (.sl a lo hi) δ s = (evE F a δ s).bind fun x s1 => (evEo F lo δ s1).bind fun l s2 => (evEo F hi δ s2).bind fun h s3 => slD x l h s3 := rfl
@[simp] theorem evE_rev {a : E} : evE F (.rev a) δ s = (evE F a δ s).bind fun x s1 => revD x s1 := rfl
@[simp] theorem evE_tup {es : Es} : evE F (.tup es) δ s = (evEs F es δ s).bind fun xs s1 => if xs.length ≤ sizeLine then .ok (.tup xs) s1 else .bad := rfl
@[simp] theorem evE_lst {es : Es} : evE F (.lst es) δ s = (evEs F es δ s).bind fun xs s1 => if xs.length ≤ sizeLine then .ok (.lst xs) s1 else .bad := rfl
@[simp] theorem evE_lstC {es : Es} : evE F (.lstC es) δ s = (evEs F es δ s).bind fun xs s1 => if xs.length ≤ sizeLine then .ok (.cell s1.nx) (s1.new (.lst xs)) else .bad := rfl
@[simp] theorem evE_call {f : Str} {es : Es} : evE F (.call f es) δ s = (evEs F es δ s).bind fun xs s1 => F (.f f) xs s1 := rfl
@[simp] theorem evE_callv {i : Nat} {es : Es} : evE F (.callv i es) δ s = (getV δ i s).bind fun f s1 => match f with
    | .fn x => (evEs F es δ s1).bind fun xs s2 => F (.f x) xs s2
    | _ => .bad := rfl
@[simp] theorem evE_callc {e : E} {es : Es} : evE F (.callc e es) δ s = (evE F e δ s).bind fun f s1 => match f with
    | .fn x => (evEs F es δ s1).bind fun xs s2 => F (.f x) xs s2
    | _ => .bad := rfl
@[simp] theorem evE_blt {b : Bid} {es : Es} : evE F (.blt b es) δ s = (evEs F es δ s).bind fun xs s1 => bltD b xs s1 := rfl
@[simp] theorem evE_mk {C : Str} {es : Es} : evE F (.mk C es) δ s = (evEs F es δ s).bind fun xs s1 => (F (.m C "__init__") (.cell s1.nx :: xs) (s1.new (.ins C []))).bind fun r s2 => match r with
    | .non => .ok (.cell s1.nx) s2
    | _ => .bad := rfl
@[simp] theorem evE_meth {o : E} {m : Str} {es : Es} : evE F (.meth o m es) δ s = (evE F o δ s).bind fun x s1 => match x with
    | .cell i => (match s1.m i with
      | some (.ins C fs) => (match fs.lookup m with
        | none => ((evEs F es δ s1).noexc (∃ ys s3, F (.m C m) ys s3 ≠ .bad)).bind fun xs s2 => F (.m C m) (x :: xs) s2
        | some _ => .bad)
      | _ => .bad)
    | _ => .bad := rfl
@[simp] theorem evE_join {a b : E} : evE F (.join a b) δ s = (evE F a δ s).bind fun x s1 => match x with
    | .str z => (evE F b δ s1).bind fun y s2 => joinD z y s2
    | _ => .bad := rfl
@[simp] theorem evE_pop {o : E} : evE F (.pop o) δ s = (evE F o δ s).bind fun x s1 => popD x s1 := rfl
@[simp] theorem evE_fld {o : E} {f : Str} : evE F (.fld o f) δ s = (evE F o δ s).bind fun x s1 => fldD x f s1 := rfl
@[simp] theorem evE_lc {c : Bool} {i : Nat} {src : W} {cond : Eo} {elt : E} : evE F (.lc c i src cond elt) δ s = (evW F src δ s).bind fun xs s1 => match lcRun i (evC F cond) (evE F elt) (δ.set i none) xs [] s1 with
      | .ok ys s2 => if c = true then .ok (.cell s2.nx) (s2.new (.lst ys)) else .ok (.lst ys) s2
      | _ => .bad := rfl
@[simp] theorem evW_seq {e : E} : evW F (.seq e) δ s = (evE F e δ s).bind fun x s1 => match seqW x with
    | some xs => .ok xs s1
    | none => .bad := rfl
@[simp] theorem evW_rng {a : E} : evW F (.rng a) δ s = (evE F a δ s).bind fun x s1 => match x with
    | .int n => if -(2 ^ 62) ≤ n ∧ n < 2 ^ 62 then .ok (rngL n) s1 else .bad
    | _ => .bad := rfl
@[simp] theorem evW_rng2 {a b : E} : evW F (.rng2 a b) δ s = (evE F a δ s).bind fun x s1 => (evE F b δ s1).bind fun y s2 => match x, y with
    | .int m, .int n => if -(2 ^ 62) ≤ m ∧ m < 2 ^ 62 ∧ -(2 ^ 62) ≤ n ∧ n < 2 ^ 62 then .ok (rng2L m n) s2 else .bad
    | _, _ => .bad := rfl
@[simp] theorem evEs_nil : evEs F .nil δ s = .ok [] s := rfl
@[simp] theorem evEs_cons {e : E} {es : Es} : evEs F (.cons e es) δ s = (evE F e δ s).bind fun x s1 => (evEs F es δ s1).bind fun xs s2 => .ok (x :: xs) s2 := rfl
@[simp] theorem evEo_none : evEo F .none δ s = .ok none s := rfl
@[simp] theorem evEo_some {e : E} : evEo F (.some e) δ s = (evE F e δ s).bind fun x s1 => match x with
    | .int i => .ok (some i) s1
    | _ => .bad := rfl
@[simp] theorem evC_none : evC F .none = none := rfl
@[simp] theorem evC_some {e : E} : evC F (.some e) = some (evE F e) := rfl
@[simp] theorem evAnd_one {e : E} : evAnd F (.cons e .nil) δ s = evE F e δ s := rfl
@[simp] theorem evAnd_more {e e2 : E} {es : Es} : evAnd F (.cons e (.cons e2 es)) δ s = (evE F e δ s).bind fun x s1 => match x with
    | .bl true => evAnd F (.cons e2 es) δ s1
    | .bl false => .ok (.bl false) s1
    | _ => .bad := rfl
@[simp] theorem evOr_one {e : E} : evOr F (.cons e .nil) δ s = evE F e δ s := rfl
@[simp] theorem evOr_more {e e2 : E} {es : Es} : evOr F (.cons e (.cons e2 es)) δ s = (evE F e δ s).bind fun x s1 => match x with
    | .bl false => evOr F (.cons e2 es) δ s1
    | .bl true => .ok (.bl true) s1
    | _ => .bad := rfl
@[simp] theorem evS_asg {i : Nat} {e : E} : evS F (.asg i e) δ s = thenS (evE F e δ s) δ fun d s1 => .nx (δ.set i (some d)) s1 := rfl
@[simp] theorem evS_unp {is : List Nat} {e : E} : evS F (.unp is e) δ s = thenS (evE F e δ s) δ fun d s1 => unpD is d δ s1 := rfl
@[simp] theorem evS_par {i j : Nat} {a b : E} : evS F (.par i j a b) δ s = thenS (evE F a δ s) δ fun x s1 => thenS (evE F b δ s1) δ fun y s2 => .nx ((δ.set i (some x)).set j (some y)) s2 := rfl
@[simp] theorem evS_six {o i e : E} : evS F (.six o i e) δ s = thenS (evE F e δ s) δ fun d s1 => thenS (evE F o δ s1) δ fun x s2 => thenS (evE F i δ s2) δ fun y s3 => optS (sixD x y d s3) δ := rfl
@[simp] theorem evS_six2 {t o i p q : E} : evS F (.six2 t o i p q) δ s = thenS (evE F t δ s) δ fun d s1 => match d with
    | .tup [x, y] => thenS (evE F o δ s1) δ fun a s2 => thenS (evE F i δ s2) δ fun b s3 => match sixD a b x s3 with
      | some s4 => thenS (evE F p δ s4) δ fun a' s5 => thenS (evE F q δ s5) δ fun b' s6 => optS (sixD a' b' y s6) δ
      | none => .bad
    | _ => .bad := rfl
@[simp] theorem evS_sfld {o : E} {f : Str} {e : E} : evS F (.sfld o f e) δ s = thenS (evE F e δ s) δ fun d s1 => thenS (evE F o δ s1) δ fun x s2 => optS (sfldD x f d s2) δ := rfl
@[simp] theorem evS_app {o e : E} : evS F (.app o e) δ s = thenS (evE F o δ s) δ fun x s1 => if isLstC x s1 = true then thenS (evE F e δ s1) δ fun d s2 => optS (appD x d s2) δ else .bad := rfl
@[simp] theorem evS_expr {e : E} : evS F (.expr e) δ s = thenS (evE F e δ s) δ fun _ s1 => .nx δ s1 := rfl
@[simp] theorem evS_ret {e : E} : evS F (.ret e) δ s = thenS (evE F e δ s) δ fun d s1 => .rt d s1 := rfl
@[simp] theorem evE_dnew : evE F .dnew δ s = .ok (.cell s.nx) (s.new (.dct [])) := rfl
@[simp] theorem evS_retF {i : Nat} : evS F (.retF i) δ s = thenS (getV δ i s) δ fun d s1 => frzD d s1 := rfl
@[simp] theorem evS_retN : evS F .retN δ s = .rt .non s := rfl
@[simp] theorem evS_pass : evS F .pass δ s = .nx δ s := rfl
@[simp] theorem evS_ifs {c : E} {a b : Ss} : evS F (.ifs c a b) δ s = thenS (evE F c δ s) δ fun x s1 => match x with
    | .bl true => evSs F a δ s1
    | .bl false => evSs F b δ s1
    | _ => .bad := rfl
@[simp] theorem evS_whl {c : E} {b : Ss} : evS F (.whl c b) δ s = whN (evE F c) (evSs F b) turns δ s := rfl
@[simp] theorem evS_for1 {i : Nat} {src : W} {b : Ss} : evS F (.for1 i src b) δ s = thenS (evW F src δ s) δ fun xs s1 => forN (set1 i) (evSs F b) xs δ s1 := rfl
@[simp] theorem evS_forT {is : List Nat} {src : W} {b : Ss} : evS F (.forT is src b) δ s = thenS (evW F src δ s) δ fun xs s1 => forN (unpD is) (evSs F b) xs δ s1 := rfl
@[simp] theorem evS_forC1 {i : Nat} {e : E} {b : Ss} : evS F (.forC1 i e b) δ s = thenS (evE F e δ s) δ fun d s1 => forCD (set1 i) (evSs F b) d δ s1 := rfl
@[simp] theorem evS_forCT {is : List Nat} {e : E} {b : Ss} : evS F (.forCT is e b) δ s = thenS (evE F e δ s) δ fun d s1 => forCD (unpD is) (evSs F b) d δ s1 := rfl
@[simp] theorem evS_raise {C : Str} : evS F (.raise C) δ s = .exc ⟨C, []⟩ δ s := rfl
@[simp] theorem evE_isE {e : E} {T : Str} {subs : List (Str × Bool)} : evE F (.isE e T subs) δ s = (evE F e δ s).bind fun x s1 => match x with
    | .ex C => okO ((subs.lookup C).map D.bl) s1
    | _ => .bad := rfl
@[simp] theorem evS_forZ {is : List Nat} {x y : E} {b : Ss} : evS F (.forZ is x y b) δ s = thenS (evE F x δ s) δ fun a s1 => thenS (evE F y δ s1) δ fun a' s2 => match a, a' with
    | .lst xs, .lst ys => forN (unpD is) (evSs F b) (List.zipWith (fun p q => D.tup [p, q]) xs ys) δ s2
    | _, _ => .bad := rfl
@[simp] theorem evE_isT {e : E} {Ts : List Str} {subs : List (Str × Bool)} : evE F (.isT e Ts subs) δ s = (evE F e δ s).bind fun x s1 => match x with
    | .ex C => okO ((subs.lookup C).map D.bl) s1
    | _ => .bad := rfl
@[simp] theorem evE_mc {m : Mid} {o : E} {es : Es} : evE F (.mc m o es) δ s = (evE F o δ s).bind fun x s1 => if isLstC x s1 = true then (evEs F es δ s1).bind fun xs s2 => mcD m x xs s2 else .bad := rfl
@[simp] theorem evS_slset {o lo hi e : E} : evS F (.slset o lo hi e) δ s = thenS (evE F e δ s) δ fun d s1 => thenS (evE F o δ s1) δ fun x s2 => thenS (evE F lo δ s2) δ fun l s3 => match l with
    | .int i => thenS (evE F hi δ s3) δ fun h s4 => match h with
      | .int k => optS (slsD x i k d s4) δ
      | _ => .bad
    | _ => .bad := rfl
@[simp] theorem evS_tryK {C : Str} {i j : Nat} {subs : List (Str × Bool)} {b : Ss} : evS F (.tryK C i j subs b) δ s = (evSs F b δ s).onExc (keepD i j subs) := rfl
@[simp] theorem nx_onExc {k : Exn → Env → Sto → SO} : (SO.nx δ s).onExc k = .nx δ s := rfl
@[simp] theorem rt_onExc {d : D} {k : Exn → Env → Sto → SO} : (SO.rt d s).onExc k = .rt d s := rfl
@[simp] theorem exc_onExc {x : Exn} {k : Exn → Env → Sto → SO} : (SO.exc x δ s).onExc k = k x δ s := rfl
theorem keep_t {i j : Nat} {subs : List (Str × Bool)} {C : Str} (h : subs.lookup C = some true) (hi : i < δ.length) : keepD i j subs ⟨C, []⟩ δ s = .nx ((δ.set j (some (.ex C))).set i none) s := by
  unfold keepD
  dsimp only
  rw [h]
  dsimp only
  exact if_pos hi
@[simp] theorem evSs_nil : evSs F .nil δ s = .nx δ s := rfl
@[simp] theorem evSs_cons {st : S} {r : Ss} : evSs F (.cons st r) δ s = (evS F st δ s).andThen (evSs F r) := rfl
end
@[simp] theorem getV_0 {d : D} {r : Env} {s : Sto} : getV (some d :: r) 0 s = .ok d s := rfl
@[simp] theorem getV_s {x : Option D} {r : Env} {i : Nat} {s : Sto} : getV (x :: r) (i + 1) s = getV r i s := rfl
@[simp] theorem setE_s {x y : Option D} {r : Env} {i : Nat} : List.set (x :: r) (i + 1) y = x :: List.set r i y := rfl
@[simp] theorem setE_0 {x y : Option D} {r : Env} : List.set (x :: r) 0 y = y :: r := rfl
section
variable {s : Sto} {i j : Int}
@[simp] theorem bin_add : binD .add (.int i) (.int j) s = .ok (.int (i + j)) s := rfl
@[simp] theorem bin_sub : binD .sub (.int i) (.int j) s = .ok (.int (i - j)) s := rfl
@[simp] theorem bin_mul : binD .mul (.int i) (.int j) s = if mulOk i j then .ok (.int (i * j)) s else .bad := rfl
theorem bin_fdiv : binD .fdiv (.int i) (.int j) s = if 0 < j ∧ j.natAbs.log2 < 9000 then .ok (.int (i / j)) s else .bad := rfl
@[simp] theorem bin_fdiv_lit (h : 0 < j) (h2 : j < 1267650600228229401496703205376) : binD .fdiv (.int i) (.int j) s = .ok (.int (i / j)) s := by
  refine if_pos ⟨h, ?_⟩
  by_cases e : j.natAbs = 0
  · rw [e]; decide
  · refine Nat.lt_trans ((Nat.log2_lt (k := 100) e).mpr ?_) (by decide)
    have : (2 : Nat) ^ 100 = 1267650600228229401496703205376 := by decide
    omega
@[simp] theorem bin_muls {a : Str} {k : Int} : binD .mul (.str a) (.int k) s = if 1 ≤ k ∧ k ≤ 1000 ∧ 1 ≤ a.length ∧ a.length ≤ 1000 then .ok (.str (repS k.toNat a)) s else .bad := rfl
@[simp] theorem bin_mull {xs : List D} {k : Int} : binD .mul (.lst xs) (.int k) s = if 0 ≤ k ∧ k < 2 ^ 40 ∧ xs.length * k.toNat ≤ sizeLine then .ok (.lst (List.replicate k.toNat xs).flatten) s else .bad := rfl
@[simp] theorem bin_mod : binD .mod (.int i) (.int j) s = if 0 < j then .ok (.int (i % j)) s else .bad := rfl
@[simp] theorem bin_pow : binD .pow (.int i) (.int j) s = if 0 ≤ j ∧ j ≤ 1000000 ∧ i.natAbs < 2 ^ 64 then .ok (.int (i ^ j.toNat)) s else .bad := rfl
@[simp] theorem bin_adds {a b : Str} : binD .add (.str a) (.str b) s = if a.length + b.length ≤ sizeLine then .ok (.str (a ++ b)) s else .bad := rfl
@[simp] theorem bin_addt {xs ys : List D} : binD .add (.tup xs) (.tup ys) s = if xs.length + ys.length ≤ sizeLine then .ok (.tup (xs ++ ys)) s else .bad := rfl
@[simp] theorem bin_addl {xs ys : List D} : binD .add (.lst xs) (.lst ys) s = if xs.length + ys.length ≤ sizeLine then .ok (.lst (xs ++ ys)) s else .bad := rfl
@[simp] theorem cmp_lt : cmpD .lt (.int i) (.int j) s = .ok (.bl (decide (i < j))) s := rfl
@[simp] theorem cmp_le : cmpD .le (.int i) (.int j) s = .ok (.bl (decide (i ≤ j))) s := rfl
@[simp] theorem cmp_gt : cmpD .gt (.int i) (.int j) s = .ok (.bl (decide (j < i))) s := rfl
@[simp] theorem cmp_ge : cmpD .ge (.int i) (.int j) s = .ok (.bl (decide (j ≤ i))) s := rfl
@[simp] theorem cmp_eq {x y : D} : cmpD .eq x y s = okO ((eqD s x y).map D.bl) s := rfl
@[simp] theorem cmp_ne {x y : D} : cmpD .ne x y s = okO ((eqD s x y).map fun b => D.bl (!b)) s := rfl
@[simp] theorem cmp_is {x : D} : cmpD .is x .non s = if isCell x = true then (if liveC s x = true then .ok (.bl false) s else .bad) else .ok (.bl (isNon x)) s := rfl
@[simp] theorem cmp_isn {x : D} : cmpD .isn x .non s = if isCell x = true then (if liveC s x = true then .ok (.bl true) s else .bad) else .ok (.bl (!isNon x)) s := rfl
@[simp] theorem cmp_isb {a b : Bool} : cmpD .is (.bl a) (.bl b) s = .ok (.bl (decide (a = b))) s := rfl
@[simp] theorem cmp_isnb {a b : Bool} : cmpD .isn (.bl a) (.bl b) s = .ok (.bl (!decide (a = b))) s := rfl
@[simp] theorem isNon_non : isNon .non = true := rfl
@[simp] theorem isNon_tup {xs : List D} : isNon (.tup xs) = false := rfl
@[simp] theorem isNon_int : isNon (.int i) = false := rfl
@[simp] theorem isNon_str {x : Str} : isNon (.str x) = false := rfl
@[simp] theorem isNon_fn {x : Str} : isNon (.fn x) = false := rfl
@[simp] theorem isNon_lst {x : List D} : isNon (.lst x) = false := rfl
@[simp] theorem isNon_bl {b : Bool} : isNon (.bl b) = false := rfl
@[simp] theorem isCell_non : isCell .non = false := rfl
@[simp] theorem isCell_tup {xs : List D} : isCell (.tup xs) = false := rfl
@[simp] theorem isCell_int : isCell (.int i) = false := rfl
@[simp] theorem isCell_str {x : Str} : isCell (.str x) = false := rfl
@[simp] theorem isCell_fn {x : Str} : isCell (.fn x) = false := rfl
@[simp] theorem isCell_lst {x : List D} : isCell (.lst x) = false := rfl
@[simp] theorem isCell_bl {b : Bool} : isCell (.bl b) = false := rfl
@[simp] theorem eqD_int : eqD s (.int i) (.int j) = some (decide (i = j)) := by
  unfold eqD
  simp only [toP]
  rw [if_pos (by simp [PyData.depth])]
  simp only [PyData.eqv, Option.some.injEq]
  rw [Bool.eq_iff_iff]; simp
@[simp] theorem eqD_bl {a b : Bool} : eqD s (.bl a) (.bl b) = some (decide (a = b)) := by
  unfold eqD
  simp only [toP]
  rw [if_pos (by simp [PyData.depth])]
  simp only [PyData.eqv, Option.some.injEq]
  rw [Bool.eq_iff_iff]; simp
@[simp] theorem eqD_str {a b : Str} : eqD s (.str a) (.str b) = some (decide (a = b)) := by
  unfold eqD
  simp only [toP]
  rw [if_pos (by simp [PyData.depth])]
  simp only [PyData.eqv, Option.some.injEq]
  rw [Bool.eq_iff_iff]; simp
/-- a tuple's item by a written place -/
theorem atI_nat {α : Type} {xs : List α} {k : Nat} : L2.atI xs (k : Int) = xs[k]? := by
  unfold L2.atI L2.ixN
  rw [if_pos (by omega)]
  by_cases h : (k : Int) < xs.length
  · rw [if_pos h]; simp
  · rw [if_neg h]
    rw [List.getElem?_eq_none (by omega)]; rfl
@[simp] theorem ix_tup_0 {xs : List D} : ixD (.tup xs) (.int 0) s = okO xs[0]? s := by
  show okO (L2.atI xs ((0 : Nat) : Int)) s = _
  rw [atI_nat]
@[simp] theorem ix_tup_1 {xs : List D} : ixD (.tup xs) (.int 1) s = okO xs[1]? s := by
  show okO (L2.atI xs ((1 : Nat) : Int)) s = _
  rw [atI_nat]
@[simp] theorem ix_tup_2 {xs : List D} : ixD (.tup xs) (.int 2) s = okO xs[2]? s := by
  show okO (L2.atI xs ((2 : Nat) : Int)) s = _
  rw [atI_nat]
@[simp] theorem ix_tup_3 {xs : List D} : ixD (.tup xs) (.int 3) s = okO xs[3]? s := by
  show okO (L2.atI xs ((3 : Nat) : Int)) s = _
  rw [atI_nat]
@[simp] theorem ix_tup_4 {xs : List D} : ixD (.tup xs) (.int 4) s = okO xs[4]? s := by
  show okO (L2.atI xs ((4 : Nat) : Int)) s = _
  rw [atI_nat]
@[simp] theorem ix_tup_5 {xs : List D} : ixD (.tup xs) (.int 5) s = okO xs[5]? s := by
  show okO (L2.atI xs ((5 : Nat) : Int)) s = _
  rw [atI_nat]
@[simp] theorem ix_tup_6 {xs : List D} : ixD (.tup xs) (.int 6) s = okO xs[6]? s := by
  show okO (L2.atI xs ((6 : Nat) : Int)) s = _
  rw [atI_nat]
@[simp] theorem ix_tup_7 {xs : List D} : ixD (.tup xs) (.int 7) s = okO xs[7]? s := by
  show okO (L2.atI xs ((7 : Nat) : Int)) s = _
  rw [atI_nat]
@[simp] theorem ix_tup_8 {xs : List D} : ixD (.tup xs) (.int 8) s = okO xs[8]? s := by
  show okO (L2.atI xs ((8 : Nat) : Int)) s = _
  rw [atI_nat]
@[simp] theorem ix_tup_9 {xs : List D} : ixD (.tup xs) (.int 9) s = okO xs[9]? s := by
  show okO (L2.atI xs ((9 : Nat) : Int)) s = _
  rw [atI_nat]
@[simp] theorem ix_lst_0 {xs : List D} : ixD (.lst xs) (.int 0) s = okO xs[0]? s := by
  show okO (L2.atI xs ((0 : Nat) : Int)) s = _
  rw [atI_nat]
@[simp] theorem ix_lst_1 {xs : List D} : ixD (.lst xs) (.int 1) s = okO xs[1]? s := by
  show okO (L2.atI xs ((1 : Nat) : Int)) s = _
  rw [atI_nat]
@[simp] theorem ix_lst_2 {xs : List D} : ixD (.lst xs) (.int 2) s = okO xs[2]? s := by
  show okO (L2.atI xs ((2 : Nat) : Int)) s = _
  rw [atI_nat]
@[simp] theorem ix_lst_3 {xs : List D} : ixD (.lst xs) (.int 3) s = okO xs[3]? s := by
  show okO (L2.atI xs ((3 : Nat) : Int)) s = _
  rw [atI_nat]
@[simp] theorem ix_lst_4 {xs : List D} : ixD (.lst xs) (.int 4) s = okO xs[4]? s := by
  show okO (L2.atI xs ((4 : Nat) : Int)) s = _
  rw [atI_nat]
@[simp] theorem ix_lst_5 {xs : List D} : ixD (.lst xs) (.int 5) s = okO xs[5]? s := by
  show okO (L2.atI xs ((5 : Nat) : Int)) s = _
  rw [atI_nat]
@[simp] theorem ix_lst_6 {xs : List D} : ixD (.lst xs) (.int 6) s = okO xs[6]? s := by
  show okO (L2.atI xs ((6 : Nat) : Int)) s = _
  rw [atI_nat]
@[simp] theorem ix_lst_7 {xs : List D} : ixD (.lst xs) (.int 7) s = okO xs[7]? s := by
  show okO (L2.atI xs ((7 : Nat) : Int)) s = _
  rw [atI_nat]
@[simp] theorem ix_lst_8 {xs : List D} : ixD (.lst xs) (.int 8) s = okO xs[8]? s := by
  show okO (L2.atI xs ((8 : Nat) : Int)) s = _
  rw [atI_nat]
@[simp] theorem ix_lst_9 {xs : List D} : ixD (.lst xs) (.int 9) s = okO xs[9]? s := by
  show okO (L2.atI xs ((9 : Nat) : Int)) s = _
  rw [atI_nat]
theorem ix_lst {xs : List D} {i : Int} : ixD (.lst xs) (.int i) s = okO (L2.atI xs i) s := rfl
theorem ix_tup {xs : List D} {i : Int} : ixD (.tup xs) (.int i) s = okO (L2.atI xs i) s := rfl
@[simp] theorem ix_cell {p : Nat} {xs : List D} {i : Int} (h : s.m p = some (.lst xs)) : ixD (.cell p) (.int i) s = ixD (.lst xs) (.int i) s := by
  simp only [ixD, seqOf, h]
theorem ix_tup_n {xs : List D} {k : Nat} : ixD (.tup xs) (.int k) s = okO xs[k]? s := by
  show okO (L2.atI xs _) s = _
  rw [atI_nat]
end
@[simp] theorem blt_abs {i : Int} {s : Sto} : bltD .abs [.int i] s = .ok (.int (i.natAbs : Int)) s := by
  show Res.ok (D.int (if i < 0 then -i else i)) s = _
  congr 2
  split <;> omega
@[simp] theorem blt_max {i j : Int} {s : Sto} : bltD .max [.int i, .int j] s = .ok (.int (max i j)) s := by
  show Res.ok (D.int (if j > i then j else i)) s = _
  congr 2
  split <;> omega
@[simp] theorem blt_min {i j : Int} {s : Sto} : bltD .min [.int i, .int j] s = .ok (.int (min i j)) s := by
  show Res.ok (D.int (if j < i then j else i)) s = _
  congr 2
  split <;> omega
@[simp] theorem blt_len_tup {xs : List D} {s : Sto} : bltD .len [.tup xs] s = .ok (.int xs.length) s := rfl
@[simp] theorem blt_len_lst {xs : List D} {s : Sto} : bltD .len [.lst xs] s = .ok (.int xs.length) s := rfl
@[simp] theorem blt_len_scr {xs : List Int} {s : Sto} : bltD .len [.scr xs] s = .ok (.int xs.length) s := by
  show Res.ok (D.int ((xs.map D.int).length : Nat)) s = _
  rw [List.length_map]
@[simp] theorem blt_list_lst {xs : List D} {s : Sto} : bltD .list [.lst xs] s = .ok (.lst xs) s := rfl
@[simp] theorem blt_isin {T : String} {x : D} {s : Sto} : bltD (.isin T) [x] s = okO ((isinD T x s).map D.bl) s := rfl
@[simp] theorem isin_int {T : String} {x : Int} {s : Sto} : isinD T (.int x) s = L2.kitB "int" T := rfl
@[simp] theorem isin_bl {T : String} {x : Bool} {s : Sto} : isinD T (.bl x) s = L2.kitB "bool" T := rfl
@[simp] theorem isin_tup {T : String} {x : List D} {s : Sto} : isinD T (.tup x) s = L2.kitB "tuple" T := rfl
@[simp] theorem isin_lst {T : String} {x : List D} {s : Sto} : isinD T (.lst x) s = L2.kitB "list" T := rfl
@[simp] theorem isin_non {T : String} {s : Sto} : isinD T .non s = L2.kitB "NoneType" T := rfl
@[simp] theorem isin_str {T : String} {x : Str} {s : Sto} : isinD T (.str x) s = L2.kitB "str" T := rfl
@[simp] theorem kit1 : L2.kitB "int" "int" = some true := by decide +kernel
@[simp] theorem kit2 : L2.kitB "int" "bool" = some false := by decide +kernel
@[simp] theorem kit3 : L2.kitB "bool" "int" = some true := by decide +kernel
@[simp] theorem kit4 : L2.kitB "bool" "bool" = some true := by decide +kernel
@[simp] theorem kit5 : L2.kitB "tuple" "tuple" = some true := by decide +kernel
@[simp] theorem kit6 : L2.kitB "NoneType" "int" = some false := by decide +kernel
@[simp] theorem kit7 : L2.kitB "NoneType" "tuple" = some false := by decide +kernel
@[simp] theorem kit8 : L2.kitB "list" "list" = some true := by decide +kernel
@[simp] theorem kit9 : L2.kitB "str" "str" = some true := by decide +kernel
@[simp] theorem sizeLine_eq : sizeLine = 16777216 := rfl
@[simp] theorem lookup_str {α : Type} {a b : String} {v : α} {r : List (Str × α)} : List.lookup (Str.ofString a) ((Str.ofString b, v) :: r) = if a = b then some v else List.lookup (Str.ofString a) r := by
  rw [List.lookup_cons, str_beq]
  by_cases h : a = b
  · simp [h]
  · simp [h]
@[simp] theorem putF_str {a b : String} {v w : D} {r : List (Str × D)} : putF (Str.ofString a) v ((Str.ofString b, w) :: r) = if b = a then (Str.ofString b, v) :: r else (Str.ofString b, w) :: putF (Str.ofString a) v r := by
  rw [putF]
  by_cases h : b = a
  · simp [h]
  · simp [h]
@[simp] theorem putF_nil {f : Str} {v : D} : putF f v [] = [(f, v)] := rfl
@[simp] theorem slD_tup {xs : List D} {l h : Option Int} {s : Sto} : slD (.tup xs) l h s = .ok (.tup (cutD xs l h)) s := rfl
@[simp] theorem fld_ins {s : Sto} {w : Nat} {f : Str} : fldD (.cell w) f s = match s.m w with
    | some (.ins _ fs) => okO (fs.lookup f) s
    | _ => .bad := rfl
@[simp] theorem sfld_ins {s : Sto} {w : Nat} {f : Str} {d : D} : sfldD (.cell w) f d s = match s.m w with
    | some (.ins C fs) => if fs.length < 1000 then some (s.set w (.ins C (putF f d fs))) else none
    | _ => none := rfl
@[simp] theorem set_same {s : Sto} {w : Nat} {c : Cell} : (s.set w c).m w = some c := by simp [Sto.set]
theorem set_ne {s : Sto} {w v : Nat} {c : Cell} (h : v ≠ w) : (s.set w c).m v = s.m v := by simp [Sto.set, h]
@[simp] theorem set_set {s : Sto} {w : Nat} {c d : Cell} : (s.set w c).set w d = s.set w d := by
  unfold Sto.set
  congr
  funext j
  by_cases h : j = w <;> simp [h]
@[simp] theorem set_nx {s : Sto} {w : Nat} {c : Cell} : (s.set w c).nx = s.nx := rfl
theorem runT_at {T : FK → Option Def} {n : Nat} {x : FK} {d : Def} {xs : List D} {s : Sto} (h : T x = some d) :
    runT T (n + 1) x xs s = if xs.length ≤ d.ps ∧ d.ps ≤ xs.length + d.nd then endS (evSs (runT T n) d.b (envOf d (xs ++ List.replicate (d.ps - xs.length) .non)) s) else .bad := by
  rw [runT, h]
theorem runT_go {T : FK → Option Def} {n : Nat} {x : FK} {d : Def} {xs : List D} {s : Sto} (δ : Env) (h : T x = some d) (hc : (Nat.ble xs.length d.ps && Nat.ble d.ps (xs.length + d.nd)) = true) (he : envOf d (xs ++ List.replicate (d.ps - xs.length) .non) = δ) :
    runT T (n + 1) x xs s = endS (evSs (runT T n) d.b δ s) := by
  rw [runT_at h, if_pos (by simpa [Nat.ble_eq] using hc), he]
theorem new_old {s : Sto} {c x : Cell} {w : Nat} (hs : s.m w = some x) (hw : w < s.nx) : (s.new c).m w = some x := by
  show (if w = s.nx then _ else s.m w) = _
  rw [if_neg (by omega)]; exact hs
@[simp] theorem new_new {s : Sto} {c : Cell} : (s.new c).m s.nx = some c := by
  show (if s.nx = s.nx then _ else _) = _
  rw [if_pos rfl]
@[simp] theorem new_nx {s : Sto} {c : Cell} : (s.new c).nx = s.nx + 1 := rfl
/-! ### a row of statements by parts -/
def takeS : Nat → Ss → Ss
  | 0, _ => .nil
  | _ + 1, .nil => .nil
  | n + 1, .cons a r => .cons a (takeS n r)
def dropS : Nat → Ss → Ss
  | 0, b => b
  | _ + 1, .nil => .nil
  | n + 1, .cons _ r => dropS n r
theorem split_at {F : Fn} : ∀ (k : Nat) (b : Ss) {δ : Env} {s : Sto}, evSs F b δ s = (evSs F (takeS k b) δ s).andThen (evSs F (dropS k b))
  | 0, b, δ, s => rfl
  | k + 1, .nil, δ, s => rfl
  | k + 1, .cons a r, δ, s => by
    show (evS F a δ s).andThen (evSs F r) = ((evS F a δ s).andThen (evSs F (takeS k r))).andThen (evSs F (dropS k r))
    cases evS F a δ s with
    | nx δ' s' => exact split_at k r
    | _ => rfl
/-- the first k statements end so, then the rest -/
theorem seg {F : Fn} (k : Nat) {b : Ss} {δ δ' : Env} {s s' : Sto} (h : evSs F (takeS k b) δ s = .nx δ' s') : evSs F b δ s = evSs F (dropS k b) δ' s' := by
  rw [split_at k, h]; rfl
end MP
/-! M1: plain data, ways of adding, trees of nodes, what size, height, total, back, sums_of, Wood do. -/
namespace MP
open PySem

/-! ### plain data -/
/-- data that may be compared, n deep at most -/
def Pln (n : Nat) (d : D) : Prop := ∃ p, toP d = some p ∧ p.depth ≤ n ∧ PyData.eqv p p = true
theorem Pln.mono {n m : Nat} {d : D} (h : Pln n d) (l : n ≤ m) : Pln m d := let ⟨p, a, b, c⟩ := h; ⟨p, a, Nat.le_trans b l, c⟩
@[simp] theorem pln_non {n : Nat} : Pln n .non := ⟨_, rfl, Nat.zero_le _, rfl⟩
@[simp] theorem pln_bl {n : Nat} {b : Bool} : Pln n (.bl b) := ⟨_, rfl, Nat.zero_le _, by simp [PyData.eqv]⟩
@[simp] theorem pln_int {n : Nat} {b : Int} : Pln n (.int b) := ⟨_, rfl, Nat.zero_le _, by simp [PyData.eqv]⟩
@[simp] theorem pln_str {n : Nat} {b : Str} : Pln n (.str b) := ⟨_, rfl, Nat.zero_le _, by simp [PyData.eqv]⟩
theorem plns {n : Nat} : ∀ {xs : List D}, (∀ x ∈ xs, Pln n x) → ∃ ps, toPs xs = some ps ∧ PyData.depthAll ps ≤ n ∧ PyData.eqvAll ps ps = true
  | [], _ => ⟨[], rfl, Nat.zero_le _, rfl⟩
  | x :: xs, h => by
    obtain ⟨p, a, b, c⟩ := h x (List.mem_cons_self ..)
    obtain ⟨ps, a', b', c'⟩ := plns (xs := xs) fun y hy => h y (List.mem_cons_of_mem _ hy)
    refine ⟨p :: ps, by rw [toPs, a, a'], ?_, ?_⟩
    · simp only [PyData.depthAll]; exact Nat.max_le.mpr ⟨b, b'⟩
    · simp only [PyData.eqvAll, c, c', Bool.and_self]
theorem pln_tup {n : Nat} {xs : List D} (h : ∀ x ∈ xs, Pln n x) : Pln (n + 1) (.tup xs) := by
  obtain ⟨ps, a, b, c⟩ := plns h
  exact ⟨.tuple ps, by rw [toP, a]; rfl, by simp only [PyData.depth]; omega, by simp only [PyData.eqv]; exact c⟩
theorem pln_lst {n : Nat} {xs : List D} (h : ∀ x ∈ xs, Pln n x) : Pln (n + 1) (.lst xs) := by
  obtain ⟨ps, a, b, c⟩ := plns h
  exact ⟨.list ps, by rw [toP, a]; rfl, by simp only [PyData.depth]; omega, by simp only [PyData.eqv]; exact c⟩
theorem eqD_refl {n : Nat} {d : D} {s : Sto} (h : Pln n d) (hn : n ≤ 100) : eqD s d d = some true := by
  obtain ⟨p, a, b, c⟩ := h
  have e : pyOf s d = some p := by
    cases d with
    | cell i => cases a
    | _ => exact a
  rw [eqD_eq, e]
  simp only
  rw [if_pos (by omega), c]
theorem eqD_nil {n : Nat} {xs : List D} {s : Sto} (h : ∀ x ∈ xs, Pln n x) : eqD s (.lst xs) (.lst []) = some (decide (xs = [])) := by
  obtain ⟨ps, a, b, c⟩ := plns h
  have e : pyOf s (.lst xs) = some (.list ps) := by show toP (.lst xs) = _; rw [toP, a]; rfl
  rw [eqD_eq, e]
  show (match some (PyData.list ps), some (PyData.list []) with | some p, some q => if min p.depth q.depth ≤ 100 then some (PyData.eqv p q) else none | _, _ => none) = _
  dsimp only
  rw [if_pos (by simp [PyData.depth, PyData.depthAll])]
  cases xs with
  | nil =>
    rw [toPs] at a; cases a
    simp [PyData.eqv, PyData.eqvAll]
  | cons x xs =>
    cases ps with
    | nil =>
      rw [toPs] at a
      split at a <;> cases a
    | cons p ps => simp [PyData.eqv, PyData.eqvAll]
theorem Pln.notCell {n : Nat} {d : D} (h : Pln n d) : isCell d = false := by
  cases d with
  | cell i => obtain ⟨_, a, _⟩ := h; cases a
  | _ => rfl

/-! ### ways of adding -/
structure Way (T : FK → Option Def) where
  A : D
  P : D → Prop
  wt : D → Nat
  op : D → D → D
  cl : ∀ {a b : D}, P a → P b → P (op a b)
  as : ∀ {a b c : D}, P a → P b → P c → op (op a b) c = op a (op b c)
  wo : ∀ {a b : D}, P a → P b → wt (op a b) ≤ wt a + wt b
  run : A = .non ∨ ∃ x, A = .fn x ∧ ∀ (n : Nat) (s : Sto) (a b : D), P a → P b → wt a + wt b ≤ 1048576 → runT T (n + 1) (.f x) [a, b] s = .ok (op a b) s
  pl : ∀ {a : D}, P a → Pln 3 a
  nn : ∀ {a : D}, P a → isNon a = false
variable {T : FK → Option Def} (W : Way T)
def Way.fold : List D → D
  | [] => .non
  | x :: xs => xs.foldl W.op x
/-- the sum of a row of things -/
def Way.sum (xs : List D) : D := if isNon W.A = true then .non else W.fold xs
/-- things that are short -/
def Way.Th (x : D) : Prop := W.P x ∧ W.wt x ≤ 64
section
variable {W}
theorem Way.fold_mul : ∀ {ys : List D} {a y : D}, W.P a → W.P y → (∀ z ∈ ys, W.P z) → ys.foldl W.op (W.op a y) = W.op a (ys.foldl W.op y)
  | [], _, _, _, _, _ => rfl
  | z :: ys, a, y, ha, hy, h => by
    have hz := h z (List.mem_cons_self ..)
    have h' : ∀ u ∈ ys, W.P u := fun u hu => h u (List.mem_cons_of_mem _ hu)
    simp only [List.foldl_cons]
    rw [W.as ha hy hz]
    exact Way.fold_mul ha (W.cl hy hz) h'
theorem Way.fold_P : ∀ {ys : List D} {y : D}, W.P y → (∀ z ∈ ys, W.P z) → W.P (ys.foldl W.op y)
  | [], _, h, _ => h
  | z :: ys, y, hy, h => by
    simp only [List.foldl_cons]
    exact Way.fold_P (W.cl hy (h z (List.mem_cons_self ..))) fun u hu => h u (List.mem_cons_of_mem _ hu)
theorem Way.fold_wt : ∀ {ys : List D} {y : D}, W.P y → (∀ z ∈ ys, W.Th z) → W.wt (ys.foldl W.op y) ≤ W.wt y + 64 * ys.length
  | [], _, h, _ => by simp
  | z :: ys, y, hy, h => by
    simp only [List.foldl_cons, List.length_cons]
    have hz := h z (List.mem_cons_self ..)
    have := Way.fold_wt (W.cl hy hz.1) fun u hu => h u (List.mem_cons_of_mem _ hu)
    have := W.wo hy hz.1
    have := hz.2
    omega
theorem Way.fold_app {xs ys : List D} (hx : xs ≠ []) (hy : ys ≠ []) (px : ∀ z ∈ xs, W.P z) (py : ∀ z ∈ ys, W.P z) : W.fold (xs ++ ys) = W.op (W.fold xs) (W.fold ys) := by
  cases xs with
  | nil => exact absurd rfl hx
  | cons x xs =>
    cases ys with
    | nil => exact absurd rfl hy
    | cons y ys =>
      show (xs ++ y :: ys).foldl W.op x = _
      rw [List.foldl_append, List.foldl_cons]
      exact Way.fold_mul (Way.fold_P (px x (List.mem_cons_self ..)) fun u hu => px u (List.mem_cons_of_mem _ hu)) (py y (List.mem_cons_self ..)) fun u hu => py u (List.mem_cons_of_mem _ hu)
theorem Way.fold_ok {xs : List D} (hx : xs ≠ []) (px : ∀ z ∈ xs, W.Th z) : W.P (W.fold xs) ∧ W.wt (W.fold xs) ≤ 64 * xs.length := by
  cases xs with
  | nil => exact absurd rfl hx
  | cons x xs =>
    have h := px x (List.mem_cons_self ..)
    have h' : ∀ u ∈ xs, W.Th u := fun u hu => px u (List.mem_cons_of_mem _ hu)
    refine ⟨Way.fold_P h.1 fun u hu => (h' u hu).1, ?_⟩
    have := Way.fold_wt h.1 h'
    have := h.2
    show W.wt (xs.foldl W.op x) ≤ 64 * (xs.length + 1)
    omega
theorem Way.sum_pl {xs : List D} (px : ∀ z ∈ xs, W.Th z) : Pln 3 (W.sum xs) := by
  unfold Way.sum
  split
  · exact pln_non
  · cases xs with
    | nil => exact pln_non
    | cons x xs => exact W.pl (Way.fold_ok (by simp) px).1
end

/-! ### trees of nodes -/
inductive Tr where
  | nil
  | nd (num : Int) (ab : Bool) (l : Tr) (x : D) (r : Tr) (sz ht : Int) (f b : D)
namespace Tr
def d : Tr → D
  | nil => .non
  | nd num ab l x r sz ht f b => .tup [.int num, .bl ab, l.d, x, r.d, .int sz, .int ht, f, b]
def things : Tr → List D
  | nil => []
  | nd _ ab l x r _ _ _ _ => if ab then (l.things ++ [x] ++ r.things).reverse else l.things ++ [x] ++ r.things
def cnt : Tr → Nat
  | nil => 0
  | nd _ _ l _ r _ _ _ _ => l.cnt + r.cnt + 1
def hgt : Tr → Nat
  | nil => 0
  | nd _ _ l _ r _ _ _ _ => 1 + max l.hgt r.hgt
theorem things_len : ∀ t : Tr, t.things.length = t.cnt
  | nil => rfl
  | nd _ ab l x r _ _ _ _ => by
    have h1 := things_len l
    have h2 := things_len r
    simp only [things, cnt]
    split <;> simp [h1, h2] <;> omega
theorem cnt_hgt : ∀ t : Tr, t.cnt + 1 ≤ 2 ^ t.hgt
  | nil => by simp [cnt, hgt]
  | nd _ ab l x r _ _ _ _ => by
    have h1 := cnt_hgt l
    have h2 := cnt_hgt r
    simp only [cnt, hgt]
    have h3 : 2 ^ l.hgt ≤ 2 ^ max l.hgt r.hgt := Nat.pow_le_pow_right (by decide) (Nat.le_max_left _ _)
    have h4 : 2 ^ r.hgt ≤ 2 ^ max l.hgt r.hgt := Nat.pow_le_pow_right (by decide) (Nat.le_max_right _ _)
    rw [Nat.add_comm 1, Nat.pow_succ]
    omega
end Tr
/-- a right make -/
inductive Good : Tr → Prop
  | nil : Good .nil
  | nd {num : Int} {ab : Bool} {l : Tr} {x : D} {r : Tr} {sz ht : Int} {f b : D} : Good l → Good r → W.Th x → sz = ((l.cnt + r.cnt + 1 : Nat) : Int) → ht = ((1 + max l.hgt r.hgt : Nat) : Int) → l.hgt ≤ r.hgt + 1 → r.hgt ≤ l.hgt + 1 →
      f = W.sum (Tr.nd num ab l x r sz ht f b).things → b = W.sum (Tr.nd num ab l x r sz ht f b).things.reverse → Good (.nd num ab l x r sz ht f b)
section
variable {W}
theorem Good.th : ∀ {t : Tr}, Good W t → ∀ z ∈ t.things, W.Th z
  | .nil, _, z, h => by simp [Tr.things] at h
  | .nd _ ab l x r _ _ _ _, .nd gl gr tx _ _ _ _ _ _, z, h => by
    have h : z ∈ l.things ∨ z = x ∨ z ∈ r.things := by
      simp only [Tr.things] at h
      split at h <;> simpa [or_comm, or_assoc, or_left_comm] using h
    rcases h with h | rfl | h
    · exact gl.th z h
    · exact tx
    · exact gr.th z h
theorem Good.pl : ∀ {t : Tr}, Good W t → Pln (t.hgt + 3) t.d
  | .nil, _ => pln_non
  | .nd num ab l x r sz ht f b, g => by
    have tz := g.th
    cases g with
    | nd gl gr tx h1 h2 h3 h4 h5 h6 =>
    have pl := gl.pl
    have pr := gr.pl
    show Pln (1 + max l.hgt r.hgt + 3) (.tup _)
    rw [show 1 + max l.hgt r.hgt + 3 = (max l.hgt r.hgt + 3) + 1 from by omega]
    refine pln_tup fun z hz => ?_
    simp only [List.mem_cons, List.mem_nil_iff, or_false] at hz
    rcases hz with rfl | rfl | rfl | rfl | rfl | rfl | rfl | rfl | rfl
    · exact pln_int
    · exact pln_bl
    · exact pl.mono (by omega)
    · exact (W.pl tx.1).mono (by omega)
    · exact pr.mono (by omega)
    · exact pln_int
    · exact pln_int
    · rw [h5]; exact (Way.sum_pl tz).mono (by omega)
    · rw [h6]; exact (Way.sum_pl fun z hz => tz z (List.mem_reverse.mp hz)).mono (by omega)
theorem Good.sz {t : Tr} (g : Good W t) : ∀ {n : Nat} {s : Sto}, T (.f "size") = some d_size → runT T (n + 1) (.f "size") [t.d] s = .ok (.int t.cnt) s := by
  intro n s h
  rw [runT_at h]
  cases g with
  | nil => simp [d_size, envOf, Tr.d, Tr.cnt]
  | nd gl gr tx h1 h2 h3 h4 h5 h6 => simp [d_size, envOf, Tr.d, Tr.cnt, h1]
theorem Good.ht {t : Tr} (g : Good W t) : ∀ {n : Nat} {s : Sto}, T (.f "height") = some d_height → runT T (n + 1) (.f "height") [t.d] s = .ok (.int t.hgt) s := by
  intro n s h
  rw [runT_at h]
  cases g with
  | nil => simp [d_height, envOf, Tr.d, Tr.hgt]
  | nd gl gr tx h1 h2 h3 h4 h5 h6 => simp [d_height, envOf, Tr.d, Tr.hgt, h2]
theorem Good.tot {t : Tr} (g : Good W t) : ∀ {n : Nat} {s : Sto}, T (.f "total") = some d_total → runT T (n + 1) (.f "total") [t.d] s = .ok (W.sum t.things) s := by
  intro n s h
  rw [runT_at h]
  cases g with
  | nil => simp [d_total, envOf, Tr.d, Tr.things, Way.sum, Way.fold]
  | nd gl gr tx h1 h2 h3 h4 h5 h6 => simp [d_total, envOf, Tr.d]; rw [← h5]
theorem Good.bck {t : Tr} (g : Good W t) : ∀ {n : Nat} {s : Sto}, T (.f "back") = some d_back → runT T (n + 1) (.f "back") [t.d] s = .ok (W.sum t.things.reverse) s := by
  intro n s h
  rw [runT_at h]
  cases g with
  | nil => simp [d_back, envOf, Tr.d, Tr.things, Way.sum, Way.fold]
  | nd gl gr tx h1 h2 h3 h4 h5 h6 => simp [d_back, envOf, Tr.d]; rw [← h6]
end
end MP
/-! M2: sums_of, a wood and its nodes. -/
namespace MP
open PySem
variable {T : FK → Option Def} {W : Way T}

theorem Tr.nonD {t : Tr} : isNon t.d = (match t with | .nil => true | _ => false) := by cases t <;> rfl
@[simp] theorem Tr.cellD {t : Tr} : isCell t.d = false := by cases t <;> rfl
theorem Tr.things_ne {t : Tr} (h : isNon t.d = false) : t.things ≠ [] := by
  cases t with
  | nil => cases h
  | nd num ab l x r sz ht f b =>
    intro e
    have := Tr.things_len (.nd num ab l x r sz ht f b)
    rw [e] at this
    simp [Tr.cnt] at this
theorem Tr.eq_nil {t : Tr} (h : isNon t.d = true) : t = .nil := by
  cases t with
  | nil => rfl
  | nd num ab l x r sz ht f b => cases h
theorem Way.sum_app {xs ys : List D} (hx : xs ≠ []) (hy : ys ≠ []) (px : ∀ z ∈ xs, W.Th z) (py : ∀ z ∈ ys, W.Th z) (hA : isNon W.A = false) : W.sum (xs ++ ys) = W.op (W.sum xs) (W.sum ys) := by
  unfold Way.sum
  rw [hA]
  exact Way.fold_app hx hy (fun z h => (px z h).1) fun z h => (py z h).1
theorem Way.sum_one {x : D} (hA : isNon W.A = false) : W.sum [x] = x := by
  unfold Way.sum
  rw [hA]; rfl
theorem Way.sum_ok {xs : List D} (hx : xs ≠ []) (px : ∀ z ∈ xs, W.Th z) (hA : isNon W.A = false) : W.P (W.sum xs) ∧ W.wt (W.sum xs) ≤ 64 * xs.length := by
  unfold Way.sum
  rw [hA]
  exact Way.fold_ok hx px
/-- adding two sums -/
theorem Way.add_run {x : Str} (hA : W.A = .fn x) {n : Nat} {s : Sto} {xs ys : List D} (hx : xs ≠ []) (hy : ys ≠ []) (px : ∀ z ∈ xs, W.Th z) (py : ∀ z ∈ ys, W.Th z) (hl : xs.length + ys.length ≤ 10000) :
    runT T (n + 1) (.f x) [W.sum xs, W.sum ys] s = .ok (W.sum (xs ++ ys)) s := by
  have hn : isNon W.A = false := by rw [hA]; rfl
  rw [Way.sum_app hx hy px py hn]
  obtain ⟨p1, w1⟩ := Way.sum_ok hx px hn
  obtain ⟨p2, w2⟩ := Way.sum_ok hy py hn
  rcases W.run with h | ⟨y, h, r⟩
  · rw [hA] at h; cases h
  · rw [hA] at h
    cases h
    exact r n s _ _ p1 p2 (by omega)
theorem run_sums {l r : Tr} {x : D} {n : Nat} {s : Sto} (h0 : T (.f "sums_of") = some d_sums_of) (h1 : T (.f "total") = some d_total) (h2 : T (.f "back") = some d_back) (gl : Good W l) (gr : Good W r) (hx : W.Th x) (hc : l.cnt + r.cnt ≤ 9000) :
    runT T (n + 2) (.f "sums_of") [W.A, l.d, x, r.d] s = .ok (.tup [W.sum (l.things ++ [x] ++ r.things), W.sum (l.things ++ [x] ++ r.things).reverse]) s := by
  rw [runT_at h0]
  rcases W.run with hA | ⟨y, hA, _⟩
  · have e : ∀ xs, W.sum xs = .non := fun xs => by unfold Way.sum; rw [hA]; rfl
    rw [e, e, hA]
    simp [d_sums_of, envOf]
  · have hn : isNon W.A = false := by rw [hA]; rfl
    have tl := gl.th
    have tr := gr.th
    have tx : ∀ z ∈ [x], W.Th z := fun z hz => by rw [List.mem_singleton.mp hz]; exact hx
    have ll := Tr.things_len l
    have lr := Tr.things_len r
    have sx := Way.sum_one (x := x) hn
    have rv : ∀ {xs : List D}, (∀ z ∈ xs, W.Th z) → ∀ z ∈ xs.reverse, W.Th z := fun h z hz => h z (List.mem_reverse.mp hz)
    have ap : ∀ {xs ys : List D}, (∀ z ∈ xs, W.Th z) → (∀ z ∈ ys, W.Th z) → ∀ z ∈ xs ++ ys, W.Th z := fun h h' z hz => (List.mem_append.mp hz).elim (h z) (h' z)
    rw [hA]
    cases hl : isNon l.d with
    | true =>
      obtain rfl := Tr.eq_nil hl
      cases hr : isNon r.d with
      | true =>
        obtain rfl := Tr.eq_nil hr
        simp [d_sums_of, envOf, Tr.d, Tr.things, sx]
      | false =>
        have nr := Tr.things_ne hr
        have nr' : r.things.reverse ≠ [] := by simpa using nr
        have e1 := Way.add_run hA (n := n) (s := s) (xs := [x]) (ys := r.things) (by simp) nr tx tr (by simp; omega)
        have e2 := Way.add_run hA (n := n) (s := s) (xs := r.things.reverse) (ys := [x]) nr' (by simp) (rv tr) tx (by simp; omega)
        rw [sx] at e1 e2
        simp [d_sums_of, envOf, Tr.d, Tr.things, hr, gr.tot h1, gr.bck h2, e1, e2]
    | false =>
      have nl := Tr.things_ne hl
      have nl' : l.things.reverse ≠ [] := by simpa using nl
      have e1 := Way.add_run hA (n := n) (s := s) (xs := l.things) (ys := [x]) nl (by simp) tl tx (by simp; omega)
      have e2 := Way.add_run hA (n := n) (s := s) (xs := [x]) (ys := l.things.reverse) (by simp) nl' tx (rv tl) (by simp; omega)
      rw [sx] at e1 e2
      cases hr : isNon r.d with
      | true =>
        obtain rfl := Tr.eq_nil hr
        simp [d_sums_of, envOf, Tr.d, Tr.things, hl, gl.tot h1, gl.bck h2, e1, e2]
      | false =>
        have nr := Tr.things_ne hr
        have nr' : r.things.reverse ≠ [] := by simpa using nr
        have e3 := Way.add_run hA (n := n) (s := s) (xs := l.things ++ [x]) (ys := r.things) (by simp) nr (ap tl tx) tr (by simp; omega)
        have e4 := Way.add_run hA (n := n) (s := s) (xs := r.things.reverse) (ys := [x] ++ l.things.reverse) nr' (by simp) (rv tr) (ap tx (rv tl)) (by simp; omega)
        simp at e1 e2 e3 e4
        simp [d_sums_of, envOf, hl, hr, gl.tot h1, gl.bck h2, gr.tot h1, gr.bck h2, e1, e2, e3, e4]

/-! ### a wood -/
abbrev woodC (A : D) (k : Int) : Cell := .ins "Wood" [("adding", A), ("numbered", .int k)]
theorem run_init {A : D} {n w : Nat} {s : Sto} (h : T (.m "Wood" "__init__") = some d_Wood_init) (hs : s.m w = some (.ins "Wood" [])) : runT T (n + 1) (.m "Wood" "__init__") [.cell w, A] s = .ok .non (s.set w (woodC A 0)) := by
  rw [runT_at h]
  simp [d_Wood_init, envOf, hs, woodC]
theorem run_init0 {n w : Nat} {s : Sto} (h : T (.m "Wood" "__init__") = some d_Wood_init) (hs : s.m w = some (.ins "Wood" [])) : runT T (n + 1) (.m "Wood" "__init__") [.cell w] s = .ok .non (s.set w (woodC .non 0)) := by
  rw [runT_at h]
  simp [d_Wood_init, envOf, hs, woodC]
theorem run_made {A : D} {k : Int} {n w : Nat} {s : Sto} (h : T (.m "Wood" "made") = some d_Wood_made) (hs : s.m w = some (woodC A k)) : runT T (n + 1) (.m "Wood" "made") [.cell w] s = .ok (.int k) s := by
  rw [runT_at h]
  simp [d_Wood_made, envOf, hs, woodC]
theorem run_next {A : D} {k : Int} {n w : Nat} {s : Sto} (h : T (.m "Wood" "next_number") = some d_Wood_next_number) (hs : s.m w = some (woodC A k)) : runT T (n + 1) (.m "Wood" "next_number") [.cell w] s = .ok (.int k) (s.set w (woodC A (k + 1))) := by
  rw [runT_at h]
  simp [d_Wood_next_number, envOf, hs, woodC]
@[simp] theorem lk_wood {A : D} {k : Int} {m : String} (h : m ≠ "adding" := by decide) (h2 : m ≠ "numbered" := by decide) : List.lookup (Str.ofString m) [(Str.ofString "adding", A), (Str.ofString "numbered", D.int k)] = none := by
  simp [h, h2]
theorem run_turned {A : D} {k : Int} {n w : Nat} {s : Sto} (h : T (.m "Wood" "turned") = some d_Wood_turned) (h2 : T (.m "Wood" "next_number") = some d_Wood_next_number) (hs : s.m w = some (woodC A k)) {a c d e f g i j : D} {b : Bool} :
  runT T (n + 2) (.m "Wood" "turned") [.cell w, .tup [a, .bl b, c, d, e, f, g, i, j]] s = .ok (.tup [.int k, .bl !b, c, d, e, f, g, j, i]) (s.set w (woodC A (k + 1))) := by
  have hs' : s.m w = some (.ins "Wood" [("adding", A), ("numbered", .int k)]) := hs
  have q := run_next (n := n) h2 hs
  rw [runT_at h]
  simp [d_Wood_turned, envOf, hs', q, cutD, HT.sIx]
theorem run_turned0 {n w : Nat} {s : Sto} (h : T (.m "Wood" "turned") = some d_Wood_turned) : runT T (n + 1) (.m "Wood" "turned") [.cell w, .non] s = .ok .non s := by
  rw [runT_at h]
  simp [d_Wood_turned, envOf]
/-- what a table must have for nodes -/
structure HN (T : FK → Option Def) : Prop where
  size : T (.f "size") = some d_size
  height : T (.f "height") = some d_height
  total : T (.f "total") = some d_total
  back : T (.f "back") = some d_back
  sums : T (.f "sums_of") = some d_sums_of
  next : T (.m "Wood" "next_number") = some d_Wood_next_number
  node : T (.m "Wood" "node") = some d_Wood_node
def mkNode (W : Way T) (k : Int) (l : Tr) (x : D) (r : Tr) : Tr := .nd k false l x r ((l.cnt + r.cnt + 1 : Nat) : Int) ((1 + max l.hgt r.hgt : Nat) : Int) (W.sum (l.things ++ [x] ++ r.things)) (W.sum (l.things ++ [x] ++ r.things).reverse)
theorem mkNode_good {k : Int} {l r : Tr} {x : D} (gl : Good W l) (gr : Good W r) (hx : W.Th x) (h1 : l.hgt ≤ r.hgt + 1) (h2 : r.hgt ≤ l.hgt + 1) : Good W (mkNode W k l x r) := .nd gl gr hx rfl rfl h1 h2 rfl rfl
theorem run_node_many {l r : Tr} {x : D} {k : Int} {n w : Nat} {s : Sto} (H : HN T) (hs : s.m w = some (woodC W.A k)) (gl : Good W l) (gr : Good W r) (hc : 2000 < l.cnt + r.cnt + 1) :
    runT T (n + 3) (.m "Wood" "node") [.cell w, l.d, x, r.d] s = .exc ⟨"TooMany", []⟩ s := by
  have hc' : (2000 : Int) < (l.cnt : Int) + (r.cnt : Int) + 1 := by omega
  rw [runT_at H.node]
  simp [d_Wood_node, envOf, gl.sz H.size, gr.sz H.size, hc']
theorem run_node_high {l r : Tr} {x : D} {k : Int} {n w : Nat} {s : Sto} (H : HN T) (hs : s.m w = some (woodC W.A k)) (gl : Good W l) (gr : Good W r) (hc : l.cnt + r.cnt + 1 ≤ 2000) (hh : l.hgt + 1 < r.hgt ∨ r.hgt + 1 < l.hgt) :
    runT T (n + 3) (.m "Wood" "node") [.cell w, l.d, x, r.d] s = .exc ⟨"NoBalance", []⟩ s := by
  have hc' : ¬ (2000 : Int) < (l.cnt : Int) + (r.cnt : Int) + 1 := by omega
  have ha : (1 : Int) < (((l.hgt : Int) - (r.hgt : Int)).natAbs : Int) := by omega
  rw [runT_at H.node]
  simp [d_Wood_node, envOf, gl.sz H.size, gr.sz H.size, gl.ht H.height, gr.ht H.height, hc', ha]
theorem run_node {l r : Tr} {x : D} {k : Int} {n w : Nat} {s : Sto} (H : HN T) (hs : s.m w = some (woodC W.A k)) (gl : Good W l) (gr : Good W r) (hx : W.Th x) (hc : l.cnt + r.cnt + 1 ≤ 2000) (h1 : l.hgt ≤ r.hgt + 1) (h2 : r.hgt ≤ l.hgt + 1) :
    runT T (n + 3) (.m "Wood" "node") [.cell w, l.d, x, r.d] s = .ok (mkNode W k l x r).d (s.set w (woodC W.A (k + 1))) := by
  have hs' : s.m w = some (.ins "Wood" [("adding", W.A), ("numbered", .int k)]) := hs
  have hc' : ¬ (2000 : Int) < (l.cnt : Int) + (r.cnt : Int) + 1 := by omega
  have q := run_next (n := n + 1) H.next hs
  have q2 := run_sums (n := n) (s := s) H.sums H.total H.back gl gr hx (by omega)
  rw [runT_at H.node]
  have ha : ¬ (1 : Int) < (((l.hgt : Int) - (r.hgt : Int)).natAbs : Int) := by omega
  simp at q2
  simp [d_Wood_node, envOf, gl.sz H.size, gr.sz H.size, gl.ht H.height, gr.ht H.height, hc', ha, hs', q, q2, unpD, putAll, mkNode, Tr.d]
  omega
end MP
/-! M3: numbers and things out of a script, ways of adding by kind. -/
namespace MP
open PySem
variable {T : FK → Option Def}

/-- of less than so many bits -/
def Sm (b : Nat) (x : Int) : Prop := x.natAbs < 2 ^ b
theorem Sm.mono {a b : Nat} {x : Int} (h : Sm a x) (l : a ≤ b) : Sm b x := Nat.lt_of_lt_of_le h (Nat.pow_le_pow_right (by decide) l)
theorem Sm.mul {a b : Nat} {x y : Int} (h : Sm a x) (g : Sm b y) : Sm (a + b) (x * y) := by
  unfold Sm at *
  rw [Int.natAbs_mul, Nat.pow_add]
  exact Nat.mul_lt_mul_of_lt_of_lt h g
theorem Sm.add {a b : Nat} {x y : Int} (h : Sm a x) (g : Sm b y) : Sm (max a b + 1) (x + y) := by
  have h' := h.mono (Nat.le_max_left a b)
  have g' := g.mono (Nat.le_max_right a b)
  unfold Sm at *
  have := Int.natAbs_add_le x y
  rw [Nat.pow_succ]
  omega
theorem Sm.div {a : Nat} {x y : Int} (h : Sm a x) (hx : 0 ≤ x) (hy : 0 < y) : Sm a (x / y) := by
  unfold Sm at *
  have h1 : 0 ≤ x / y := Int.ediv_nonneg hx (Int.le_of_lt hy)
  have h2 : x / y ≤ x := Int.ediv_le_self _ hx
  omega
theorem Sm.mod {b : Nat} {x y : Int} (g : Sm b y) (hy : 0 < y) : Sm b (x % y) := by
  unfold Sm at *
  have h1 := Int.emod_nonneg x (Int.ne_of_gt hy)
  have h2 := Int.emod_lt_of_pos x hy
  omega
theorem Sm.log {b : Nat} {x : Int} (h : Sm b x) : x.natAbs.log2 ≤ b := by
  by_cases e : x.natAbs = 0
  · rw [e]; simp
  · exact Nat.le_of_lt ((Nat.log2_lt e).mpr h)
theorem mul_ok {a b : Nat} {x y : Int} (h : Sm a x) (g : Sm b y) (l : a + b < 1000000) : mulOk x y := by
  have := h.log
  have := g.log
  unfold mulOk
  left
  omega
/-- the number out of the script -/
def mxN (ns : List Int) (k : Int) : Int := k + 3 + if 0 < ns.length then ns.getD (k % (ns.length : Int)).toNat 0 % 10 ^ 64 * (k / (ns.length : Int) + 1) else 0
def mxR (ns : List Int) (k : Int) : Int := mxN ns k * 6364136223846793005
def mx (ns : List Int) (k : Int) : Int := mxR ns k * mxR ns k * mxR ns k / 1000003
theorem p64 : (0 : Int) < 10 ^ 64 := by decide
theorem mxN_sm {ns : List Int} {k : Int} (h0 : 0 ≤ k) (h1 : k < 2 ^ 60) : Sm 300 (mxN ns k) ∧ 0 ≤ mxN ns k := by
  have k1 : Sm 61 (k + 3) := by unfold Sm; omega
  unfold mxN
  split
  · rename_i hl
    have hl' : (0 : Int) < (ns.length : Int) := by omega
    have a1 : Sm 213 (ns.getD (k % (ns.length : Int)).toNat 0 % 10 ^ 64) := Sm.mod (by unfold Sm; decide) p64
    have a2 : Sm 61 (k / (ns.length : Int) + 1) := by
      have := Int.ediv_le_self (ns.length : Int) h0
      have := Int.ediv_nonneg h0 (Int.le_of_lt hl')
      unfold Sm; omega
    have n1 : 0 ≤ ns.getD (k % (ns.length : Int)).toNat 0 % 10 ^ 64 := Int.emod_nonneg _ (by decide)
    have n2 : 0 ≤ k / (ns.length : Int) + 1 := by
      have := Int.ediv_nonneg h0 (Int.le_of_lt hl'); omega
    exact ⟨(k1.add (a1.mul a2)).mono (by decide), by have := Int.mul_nonneg n1 n2; omega⟩
  · exact ⟨by rw [Int.add_zero]; exact k1.mono (by decide), by omega⟩
theorem mxR_sm {ns : List Int} {k : Int} (h0 : 0 ≤ k) (h1 : k < 2 ^ 60) : Sm 363 (mxR ns k) ∧ 0 ≤ mxR ns k := by
  obtain ⟨a, b⟩ := mxN_sm (ns := ns) h0 h1
  have c : Sm 63 6364136223846793005 := by unfold Sm; decide
  exact ⟨(a.mul c).mono (by decide), by unfold mxR; exact Int.mul_nonneg b (by decide)⟩
theorem mx_sm {ns : List Int} {k : Int} (h0 : 0 ≤ k) (h1 : k < 2 ^ 60) : Sm 1100 (mx ns k) ∧ 0 ≤ mx ns k := by
  obtain ⟨a, b⟩ := mxR_sm (ns := ns) h0 h1
  have n := Int.mul_nonneg (Int.mul_nonneg b b) b
  exact ⟨(((a.mul a).mul a).div n (by decide)).mono (by decide), Int.ediv_nonneg n (by decide)⟩
@[simp] theorem ix_scr {ns : List Int} {i : Int} {s : Sto} : ixD (.scr ns) (.int i) s = okO (L2.atI (ns.map D.int) i) s := rfl
theorem atI_nn {α : Type} {xs : List α} {i : Int} (h : 0 ≤ i) : L2.atI xs i = xs[i.toNat]? := by
  obtain ⟨j, rfl⟩ := Int.eq_ofNat_of_zero_le h
  rw [atI_nat]; simp
theorem run_mixed (h : T (.f "_law_mixed") = some d_mixed) {ns : List Int} (hns : ns.length ≤ 63) {k : Int} (h0 : 0 ≤ k) (h1 : k < 2 ^ 60) {n : Nat} {s : Sto} : runT T (n + 1) (.f "_law_mixed") [.scr ns, .int k] s = .ok (.int (mx ns k)) s := by
  obtain ⟨a, b⟩ := mxR_sm (ns := ns) h0 h1
  obtain ⟨a', b'⟩ := mxN_sm (ns := ns) h0 h1
  have m1 : mulOk (mxN ns k) 6364136223846793005 := mul_ok a' (b := 63) (by unfold Sm; decide) (by decide)
  have m2 := mul_ok a a (by decide)
  have m3 := mul_ok (a.mul a) a (by decide)
  have d : (0 : Int) < 1000003 ∧ (1000003 : Int).natAbs.log2 < 9000 := by decide
  have fin : ∀ {F : Fn}, evSs F (.cons (.asg 3 (.bin .mul (.var 2) (.int 6364136223846793005))) (.cons (.ret (.bin .fdiv (.bin .mul (.bin .mul (.var 3) (.var 3)) (.var 3)) (.int 1000003))) .nil)) [some (.scr ns), some (.int k), some (.int (mxN ns k)), none] s = .rt (.int (mx ns k)) s := fun {F} => by
    have e1 : evS F (.asg 3 (.bin .mul (.var 2) (.int 6364136223846793005))) [some (.scr ns), some (.int k), some (.int (mxN ns k)), none] s = .nx [some (.scr ns), some (.int k), some (.int (mxN ns k)), some (.int (mxR ns k))] s := by
      simp only [evS_asg, evE_bin, evE_var, evE_int, getV_s, getV_0, bind_ok, bin_mul, if_pos m1, thenS_ok]
      rfl
    rw [evSs_cons, e1]
    simp only [nx_then, evSs_cons, evS_ret, evE_bin, evE_var, evE_int, getV_s, getV_0, bind_ok, bin_mul, if_pos m2, if_pos m3, thenS_ok, rt_then, bin_fdiv, if_pos d]
    rfl
  rw [runT_go [some (.scr ns), some (.int k), none, none] h rfl rfl]
  by_cases hl : 0 < ns.length
  · have hl' : (0 : Int) < (ns.length : Int) := by omega
    have i0 := Int.emod_nonneg k (Int.ne_of_gt hl')
    have i1 := Int.emod_lt_of_pos k hl'
    have e : L2.atI (ns.map D.int) (k % (ns.length : Int)) = some (.int (ns.getD (k % (ns.length : Int)).toNat 0)) := by
      rw [atI_nn i0, List.getElem?_map, List.getD_eq_getElem?_getD]
      rw [List.getElem?_eq_getElem (by omega)]; rfl
    have a1 : Sm 213 (ns.getD (k % (ns.length : Int)).toNat 0 % 10 ^ 64) := Sm.mod (by unfold Sm; decide) p64
    have a2 : Sm 61 (k / (ns.length : Int) + 1) := by
      have := Int.ediv_le_self (ns.length : Int) h0
      have := Int.ediv_nonneg h0 (Int.le_of_lt hl')
      unfold Sm; omega
    have m4 := mul_ok a1 a2 (by decide)
    have d2 : (0 : Int) < (ns.length : Int) ∧ (ns.length : Int).natAbs.log2 < 9000 := ⟨hl', Nat.lt_of_le_of_lt (Sm.log (b := 64) (by unfold Sm; omega)) (by decide)⟩
    have eN : k + 3 + ns.getD (k % (ns.length : Int)).toNat 0 % 10 ^ 64 * (k / (ns.length : Int) + 1) = mxN ns k := by unfold mxN; rw [if_pos hl]
    have pw : (0 : Int) ≤ 64 ∧ (64 : Int) ≤ 1000000 ∧ (10 : Int).natAbs < 2 ^ 64 := by decide
    have pz : (10 : Int) ^ (64 : Int).toNat = 10 ^ 64 := rfl
    have st1 : evS (runT T n) (.asg 2 (.bin .add (.var 1) (.int 3))) [some (.scr ns), some (.int k), none, none] s = .nx [some (.scr ns), some (.int k), some (.int (k + 3)), none] s := rfl
    have st2 : evS (runT T n) (.asg 2 (.bin .add (.var 2) (.bin .mul (.bin .mod (.ix (.var 0) (.bin .mod (.var 1) (.blt .len (.cons (.var 0) .nil)))) (.bin .pow (.int 10) (.int 64))) (.bin .add (.bin .fdiv (.var 1) (.blt .len (.cons (.var 0) .nil))) (.int 1)))))
        [some (.scr ns), some (.int k), some (.int (k + 3)), none] s = .nx [some (.scr ns), some (.int k), some (.int (mxN ns k)), none] s := by
      simp only [evS_asg, evE_bin, evE_var, evE_int, evE_ix, evE_blt, evEs_cons, evEs_nil, getV_s, getV_0, bind_ok, blt_len_scr, bin_mod, if_pos hl', ix_scr, e, okO_some, bin_pow, if_pos pw, pz, if_pos p64, bin_fdiv, if_pos d2, bin_add, bin_mul, if_pos m4, thenS_ok, setE_s, setE_0, eN]
    have st3 : evS (runT T n) (.ifs (.cmp .gt (.blt .len (.cons (.var 0) .nil)) (.int 0)) (.cons (.asg 2 (.bin .add (.var 2) (.bin .mul (.bin .mod (.ix (.var 0) (.bin .mod (.var 1) (.blt .len (.cons (.var 0) .nil)))) (.bin .pow (.int 10) (.int 64))) (.bin .add (.bin .fdiv (.var 1) (.blt .len (.cons (.var 0) .nil))) (.int 1))))) .nil) .nil)
        [some (.scr ns), some (.int k), some (.int (k + 3)), none] s = .nx [some (.scr ns), some (.int k), some (.int (mxN ns k)), none] s := by
      rw [evS_ifs]
      simp only [evE_cmp, evE_var, evE_int, evE_blt, evEs_cons, evEs_nil, getV_s, getV_0, bind_ok, blt_len_scr, cmp_gt, thenS_ok, decide_eq_true hl', evSs_cons, st2, nx_then, evSs_nil]
    unfold d_mixed
    dsimp only
    rw [evSs_cons, st1, nx_then, evSs_cons, st3, nx_then, fin]
    rfl
  · have hz : ns.length = 0 := by omega
    have hl' : ¬ (0 : Int) < (ns.length : Int) := by omega
    have eN : k + 3 = mxN ns k := by unfold mxN; rw [if_neg hl, Int.add_zero]
    have st1 : evS (runT T n) (.asg 2 (.bin .add (.var 1) (.int 3))) [some (.scr ns), some (.int k), none, none] s = .nx [some (.scr ns), some (.int k), some (.int (mxN ns k)), none] s := by rw [← eN]; rfl
    unfold d_mixed
    dsimp only
    rw [evSs_cons, st1, nx_then, evSs_cons, evS_ifs]
    simp only [evE_cmp, evE_var, evE_int, evE_blt, evEs_cons, evEs_nil, getV_s, getV_0, bind_ok, blt_len_scr, cmp_gt, thenS_ok, decide_eq_false hl', evSs_nil, nx_then, fin]
    rfl
end MP
/-! M4: ways of adding by kind, things out of a script. -/
namespace MP
open PySem
variable {T : FK → Option Def}

theorem str_assoc (a b c : Str) : a ++ b ++ c = a ++ (b ++ c) := by
  show Str.mk (a.cps ++ b.cps ++ c.cps) = Str.mk (a.cps ++ (b.cps ++ c.cps))
  rw [Array.append_assoc]
def isI (x : D) : Prop := ∃ i, x = .int i
def isS (x : D) : Prop := ∃ i, x = .str i
def pm (i : Int) : Prop := 0 ≤ i ∧ i < 1000003
def isP (x : D) : Prop := ∃ i j, x = .tup [.int i, .int j] ∧ pm i ∧ pm j
def opJ : D → D → D
  | .int i, .int j => .int (i + j)
  | .str a, .str b => .str (a ++ b)
  | a, _ => a
def opM : D → D → D
  | .int i, .int j => .int (max i j)
  | a, _ => a
def opP : D → D → D
  | .tup [.int a, .int b], .tup [.int c, .int e] => .tup [.int (a * c % 1000003), .int ((b * c + e) % 1000003)]
  | a, _ => a
def wtS : D → Nat
  | .str a => a.length
  | _ => 0
structure HA (T : FK → Option Def) : Prop where
  adding : T (.f "_law_adding") = some d_adding
  joined : T (.f "_law_add_joined") = some d_add_joined
  pairs : T (.f "_law_add_pairs") = some d_add_pairs
  most : T (.f "_law_add_most") = some d_add_most
  mixed : T (.f "_law_mixed") = some d_mixed
  thing : T (.f "_law_thing") = some d_thing
def wayN (T : FK → Option Def) : Way T where
  A := .non
  P := fun x => isI x ∨ isS x
  wt := wtS
  op := fun a _ => a
  cl := fun h _ => h
  as := fun _ _ _ => rfl
  wo := fun _ _ => Nat.le_add_right _ _
  run := .inl rfl
  pl := fun h => by rcases h with ⟨i, rfl⟩ | ⟨i, rfl⟩ <;> simp
  nn := fun h => by rcases h with ⟨i, rfl⟩ | ⟨i, rfl⟩ <;> rfl
def wayI (H : HA T) : Way T where
  A := .fn "_law_add_joined"
  P := isI
  wt := wtS
  op := opJ
  cl := fun ⟨i, hi⟩ ⟨j, hj⟩ => ⟨i + j, by rw [hi, hj]; rfl⟩
  as := fun ⟨i, hi⟩ ⟨j, hj⟩ ⟨k, hk⟩ => by rw [hi, hj, hk]; simp [opJ, Int.add_assoc]
  wo := fun ⟨i, hi⟩ ⟨j, hj⟩ => by rw [hi, hj]; simp [opJ, wtS]
  run := .inr ⟨_, rfl, fun n s a b ⟨i, hi⟩ ⟨j, hj⟩ _ => by
    rw [hi, hj, runT_at H.joined]; simp [d_add_joined, envOf, opJ]⟩
  pl := fun ⟨i, hi⟩ => by rw [hi]; simp
  nn := fun ⟨i, hi⟩ => by rw [hi]; rfl
def wayS (H : HA T) : Way T where
  A := .fn "_law_add_joined"
  P := isS
  wt := wtS
  op := opJ
  cl := fun ⟨i, hi⟩ ⟨j, hj⟩ => ⟨i ++ j, by rw [hi, hj]; rfl⟩
  as := fun ⟨i, hi⟩ ⟨j, hj⟩ ⟨k, hk⟩ => by rw [hi, hj, hk]; simp [opJ, str_assoc]
  wo := fun ⟨i, hi⟩ ⟨j, hj⟩ => by rw [hi, hj]; simp [opJ, wtS, PySem.Str.length_append]
  run := .inr ⟨_, rfl, fun n s a b ⟨i, hi⟩ ⟨j, hj⟩ h => by
    rw [hi, hj] at h ⊢
    have h' : i.length + j.length ≤ 16777216 := by
      have h : i.length + j.length ≤ 1048576 := h
      omega
    rw [runT_at H.joined]; simp [d_add_joined, envOf, opJ, h']⟩
  pl := fun ⟨i, hi⟩ => by rw [hi]; simp
  nn := fun ⟨i, hi⟩ => by rw [hi]; rfl
theorem pm_mod {x : Int} : pm (x % 1000003) := ⟨Int.emod_nonneg _ (by decide), Int.emod_lt_of_pos _ (by decide)⟩
theorem pm_sm {x : Int} (h : pm x) : Sm 20 x := by unfold Sm pm at *; omega
def wayP (H : HA T) : Way T where
  A := .fn "_law_add_pairs"
  P := isP
  wt := fun _ => 0
  op := opP
  cl := fun ⟨i, j, hi, p, q⟩ ⟨k, l, hk, p', q'⟩ => ⟨i * k % 1000003, (j * k + l) % 1000003, by rw [hi, hk]; rfl, pm_mod, pm_mod⟩
  as := fun ⟨i, j, hi, p, q⟩ ⟨k, l, hk, p', q'⟩ ⟨m, n, hm, p'', q''⟩ => by
    rw [hi, hk, hm]
    simp only [opP, D.tup.injEq, List.cons.injEq, D.int.injEq, and_true]
    constructor
    · rw [Int.mul_emod, Int.emod_emod, ← Int.mul_emod, Int.mul_assoc, Int.mul_emod i, Int.mul_emod i (k * m % 1000003), Int.emod_emod]
    · rw [Int.add_emod, Int.mul_emod ((j * k + l) % 1000003), Int.emod_emod, ← Int.mul_emod, ← Int.add_emod, Int.add_emod (j * (k * m % 1000003)), Int.mul_emod j (k * m % 1000003), Int.emod_emod, ← Int.mul_emod j, Int.emod_emod, ← Int.add_emod, Int.add_mul, Int.mul_assoc, Int.add_assoc]
  wo := fun _ _ => Nat.zero_le _
  run := .inr ⟨_, rfl, fun n s a b ⟨i, j, hi, p, q⟩ ⟨k, l, hk, p', q'⟩ _ => by
    rw [hi, hk, runT_at H.pairs]
    have m1 := mul_ok (pm_sm p) (pm_sm p') (by decide)
    have m2 := mul_ok (pm_sm q) (pm_sm p') (by decide)
    simp [d_add_pairs, envOf, opP, m1, m2]⟩
  pl := fun ⟨i, j, hi, _⟩ => by rw [hi]; exact (pln_tup (n := 0) fun x hx => by simp at hx; rcases hx with rfl | rfl <;> simp).mono (by decide)
  nn := fun ⟨i, j, hi, _⟩ => by rw [hi]; rfl
def wayM (H : HA T) : Way T where
  A := .fn "_law_add_most"
  P := isI
  wt := wtS
  op := opM
  cl := fun ⟨i, hi⟩ ⟨j, hj⟩ => ⟨max i j, by rw [hi, hj]; rfl⟩
  as := fun ⟨i, hi⟩ ⟨j, hj⟩ ⟨k, hk⟩ => by rw [hi, hj, hk]; simp [opM] <;> omega
  wo := fun ⟨i, hi⟩ ⟨j, hj⟩ => by rw [hi, hj]; simp [opM, wtS]
  run := .inr ⟨_, rfl, fun n s a b ⟨i, hi⟩ ⟨j, hj⟩ _ => by
    rw [hi, hj, runT_at H.most]; simp [d_add_most, envOf, opM]⟩
  pl := fun ⟨i, hi⟩ => by rw [hi]; simp
  nn := fun ⟨i, hi⟩ => by rw [hi]; rfl
/-- the way of a kind -/
def way (H : HA T) (k : Int) : Way T := if k = 0 then wayN T else if k = 1 then wayI H else if k = 2 then wayS H else if k = 3 then wayP H else wayM H
theorem run_adding (H : HA T) {k : Int} (h0 : 0 ≤ k) {n : Nat} {s : Sto} : runT T (n + 1) (.f "_law_adding") [.int k] s = .ok (way H k).A s := by
  rw [runT_at H.adding]
  unfold way
  by_cases h : k = 0
  · subst h; simp [d_adding, envOf, wayN]
  · by_cases h1 : k = 1
    · subst h1; simp [d_adding, envOf, wayI]
    · by_cases h2 : k = 2
      · subst h2; simp [d_adding, envOf, wayS]
      · by_cases h3 : k = 3
        · subst h3; simp [d_adding, envOf, wayP]
        · have h5 : ¬ k < 3 := by omega
          simp [d_adding, envOf, wayM, h, h1, h2, h3, h5]
/-! ### comprehensions -/
theorem lc_map {i : Nat} {elt : Env → Sto → Res D} {δ : Env} {s : Sto} (f : D → D) : ∀ {xs acc : List D}, (∀ x ∈ xs, elt (δ.set i (some x)) s = .ok (f x) s) → acc.length + xs.length ≤ sizeLine → lcRun i none elt δ xs acc s = .ok (acc ++ xs.map f) s
  | [], acc, _, _ => by simp [lcRun]
  | x :: xs, acc, h, hl => by
    have hl' : acc.length + (xs.length + 1) ≤ 16777216 := hl
    unfold lcRun
    dsimp only
    rw [h x (List.mem_cons_self ..)]
    dsimp only
    rw [if_pos (by show _ < 16777216; omega), lc_map f (fun y hy => h y (List.mem_cons_of_mem _ hy)) (by rw [List.length_append]; show acc.length + 1 + xs.length ≤ 16777216; omega)]
    simp
theorem strsD_map {α : Type} (f : α → Str) : ∀ xs : List α, strsD (xs.map fun x => D.str (f x)) = some (xs.map f)
  | [] => rfl
  | x :: xs => by simp only [List.map_cons, strsD, strsD_map f xs, Option.map_some]
theorem join_len {a : Str} : ∀ ys : List Str, (Str.join a ys).length ≤ (ys.map (·.length)).sum + ys.length * a.length
  | [] => Nat.zero_le _
  | [x] => by simp [Str.join]
  | x :: y :: ys => by
    have h := join_len (a := a) (y :: ys)
    rw [Str.join, PySem.Str.length_append, PySem.Str.length_append]
    · simp only [List.map_cons, List.sum_cons, List.length_cons] at h ⊢
      have : (ys.length + 1 + 1) * a.length = (ys.length + 1) * a.length + a.length := by rw [Nat.add_mul (ys.length + 1) 1, Nat.one_mul]
      omega
    · simp
theorem sum_one {α : Type} (f : α → Nat) (h : ∀ x, f x = 1) : ∀ xs : List α, (xs.map f).sum = xs.length
  | [] => rfl
  | x :: xs => by simp [sum_one f h xs, h, Nat.add_comm]
def letters : Str := "abcdefgh ijklmnopqrstuvwxyz"
theorem letters_len : letters.length = 27 := by decide +kernel
def txt (m : Int) (g : Int → Nat) : Str := Str.join "" ((List.range m.toNat).map fun j : Nat => ⟨#[g j]⟩)
/-- a text of single letters -/
theorem run_text {F : Fn} {δ : Env} {s : Sto} {m : Int} (hm0 : 0 ≤ m) (hm : m < 1000) (g : Int → Nat) {elt : E} {i : Nat} (he : ∀ j : Nat, j < m.toNat → evE F elt ((δ.set i none).set i (some (.int j))) s = .ok (.str ⟨#[g j]⟩) s) {a : E} (ha : evE F a δ s = .ok (.int m) s) :
    (txt m g).length ≤ m.toNat ∧ evE F (.join (.str "") (.lc false i (.rng a) .none elt)) δ s = .ok (.str (txt m g)) s := by
  have e0 : ((Str.ofString "").length) = 0 := by decide +kernel
  have hr : -(2 ^ 62) ≤ m ∧ m < 2 ^ 62 := by omega
  have e1 : evE F (.lc false i (.rng a) .none elt) δ s = .ok (.lst ((List.range m.toNat).map fun j : Nat => D.str ⟨#[g j]⟩)) s := by
    rw [evE_lc, evW_rng, ha, bind_ok]
    dsimp only
    rw [if_pos hr, bind_ok, evC_none]
    have q := lc_map (i := i) (elt := evE F elt) (δ := δ.set i none) (s := s) (fun d => match d with | .int j => .str ⟨#[g j]⟩ | d => d) (xs := rngL m) (acc := []) (fun x hx => by
      unfold rngL at hx
      obtain ⟨j, hj, rfl⟩ := List.mem_map.mp hx
      exact he j (List.mem_range.mp hj)) (by unfold rngL; rw [List.length_map, List.length_range]; show 0 + m.toNat ≤ 16777216; omega)
    rw [q]
    dsimp only
    rw [if_neg (by simp)]
    unfold rngL
    simp
  have e2 : (((List.range m.toNat).map fun j : Nat => (⟨#[g j]⟩ : Str)).map (·.length)).sum = m.toNat := by
    rw [List.map_map]
    exact (sum_one (fun j : Nat => (⟨#[g j]⟩ : Str).length) (fun _ => rfl) _).trans List.length_range
  refine ⟨?_, ?_⟩
  · have := join_len (a := "") ((List.range m.toNat).map fun j : Nat => (⟨#[g j]⟩ : Str))
    rw [e2, e0] at this
    unfold txt
    simpa using this
  · rw [evE_join, evE_str, bind_ok]
    dsimp only
    rw [e1, bind_ok]
    unfold joinD
    dsimp only [seqOf]
    rw [strsD_map (fun j : Nat => (⟨#[g j]⟩ : Str))]
    dsimp only
    rw [if_pos (by rw [e2, e0]; omega)]
    rfl
theorem ix_letters {v : Int} {s : Sto} : ixD (.str letters) (.int (v % 27)) s = .ok (.str ⟨#[(letters.cps.toList.getD (v % 27).toNat 0)]⟩) s := by
  have h0 := Int.emod_nonneg v (b := 27) (by decide)
  have h1 := Int.emod_lt_of_pos v (b := 27) (by decide)
  have hl : letters.cps.toList.length = 27 := by rw [Array.length_toList]; exact letters_len
  unfold ixD
  dsimp only
  rw [if_pos (by rw [letters_len]; decide)]
  show okO ((L2.atI letters.cps.toList (v % 27)).map _) s = _
  rw [atI_nn h0, List.getElem?_eq_getElem (by rw [hl]; omega), List.getD_eq_getElem?_getD, List.getElem?_eq_getElem (by rw [hl]; omega)]
  rfl
end MP
/-! M5: a thing out of a script, a make's things, a sum of a list. -/
namespace MP
open PySem
variable {T : FK → Option Def}

theorem emod_in {v m : Int} (h : 0 < m) : 0 ≤ v % m ∧ v % m < m := ⟨Int.emod_nonneg _ (Int.ne_of_gt h), Int.emod_lt_of_pos _ h⟩
def letterAt (v j : Int) : Nat := letters.cps.toList.getD ((v / (3 * j + 5)) % 27).toNat 0
theorem text_elt {F : Fn} {s : Sto} {a b c : D} {v : Int} (hv : 0 ≤ v) (j : Nat) (hj : j < 1000) :
    evE F (.ix (.var 4) (.bin .mod (.bin .fdiv (.var 3) (.bin .add (.bin .mul (.int 3) (.var 6)) (.int 5))) (.int 27))) [some a, some b, some c, some (.int v), some (.str letters), none, some (.int j)] s = .ok (.str ⟨#[letterAt v j]⟩) s := by
  have m1 : mulOk 3 (j : Int) := mul_ok (a := 3) (b := 11) (by unfold Sm; decide) (by unfold Sm; omega) (by decide)
  have m2 : 0 < 3 * (j : Int) + 5 ∧ (3 * (j : Int) + 5).natAbs.log2 < 9000 := ⟨by omega, Nat.lt_of_le_of_lt (Sm.log (b := 20) (by unfold Sm; omega)) (by decide)⟩
  have m3 : (0 : Int) < 27 := by decide
  simp only [evE_ix, evE_bin, evE_var, evE_int, getV_s, getV_0, bind_ok, bin_mul, if_pos m1, bin_add, bin_fdiv, if_pos m2, bin_mod, if_pos m3, ix_letters]
  rfl
theorem way_int (H : HA T) {κ : Int} (h2 : ¬ κ = 2) (h3 : ¬ κ = 3) {x : Int} : (way H κ).Th (.int x) := by
  unfold way
  by_cases e0 : κ = 0
  · rw [if_pos e0]; exact ⟨.inl ⟨_, rfl⟩, Nat.zero_le _⟩
  · rw [if_neg e0]
    by_cases e1 : κ = 1
    · rw [if_pos e1]; exact ⟨⟨_, rfl⟩, Nat.zero_le _⟩
    · rw [if_neg e1, if_neg h2, if_neg h3]; exact ⟨⟨_, rfl⟩, Nat.zero_le _⟩
theorem run_thing (H : HA T) {ns : List Int} (hns : ns.length ≤ 63) {k κ : Int} (h0 : 0 ≤ k) (h1 : k < 2 ^ 60) (hκ : 0 ≤ κ) (hκ4 : κ ≤ 4) :
    ∃ x, (way H κ).Th x ∧ ∀ (n : Nat) (s : Sto), runT T (n + 2) (.f "_law_thing") [.scr ns, .int k, .int κ] s = .ok x s := by
  obtain ⟨_, hv⟩ := mx_sm (ns := ns) h0 h1
  have hm : ∀ (n : Nat) (s : Sto), runT T (n + 1) (.f "_law_mixed") [.scr ns, .int k] s = .ok (.int (mx ns k)) s := fun n s => run_mixed H.mixed hns h0 h1
  generalize mx ns k = v at hv hm
  have c2 : (0 : Int) < 2 := by decide
  have c7 : (0 : Int) < 7 ∧ (7 : Int).natAbs.log2 < 9000 := by decide
  have c9 : (0 : Int) < 9 := by decide
  have e9 := emod_in (v := v / 7) c9
  have txtE : ∀ (F : Fn) (s : Sto), (txt (v / 7 % 9) (letterAt v)).length ≤ (v / 7 % 9).toNat ∧ evE F (.join (.str "") (.lc false 6 (.rng (.bin .mod (.bin .fdiv (.var 3) (.int 7)) (.int 9))) .none (.ix (.var 4) (.bin .mod (.bin .fdiv (.var 3) (.bin .add (.bin .mul (.int 3) (.var 6)) (.int 5))) (.int 27)))))
      [some (.scr ns), some (.int k), some (.int κ), some (.int v), some (.str letters), none, none] s = .ok (.str (txt (v / 7 % 9) (letterAt v))) s := fun F s =>
    run_text e9.1 (by omega) (letterAt v) (fun j hj => text_elt hv j (by omega)) (by simp only [evE_bin, evE_var, evE_int, getV_s, getV_0, bind_ok, bin_fdiv, if_pos c7, bin_mod, if_pos c9])
  have tl : (txt (v / 7 % 9) (letterAt v)).length ≤ 64 := by have := (txtE (runT T 0) sto0).1; omega
  by_cases ht : κ = 2 ∨ (κ = 0 ∧ v % 2 = 1)
  · refine ⟨.str (txt (v / 7 % 9) (letterAt v)), ?_, fun n s => ?_⟩
    · rcases ht with rfl | ⟨rfl, _⟩
      · exact ⟨⟨_, rfl⟩, tl⟩
      · exact ⟨.inr ⟨_, rfl⟩, tl⟩
    · rw [runT_go [some (.scr ns), some (.int k), some (.int κ), none, none, none, none] H.thing rfl rfl]
      have hc : evE (runT T (n + 1)) (.orr (.cons (.cmp .eq (.var 2) (.int 2)) (.cons (.an (.cons (.cmp .eq (.var 2) (.int 0)) (.cons (.cmp .eq (.bin .mod (.var 3) (.int 2)) (.int 1)) .nil))) .nil))) [some (.scr ns), some (.int k), some (.int κ), some (.int v), none, none, none] s = .ok (.bl true) s := by
        rcases ht with rfl | ⟨rfl, h⟩
        · simp
        · simp [h]
      unfold d_thing
      dsimp only
      rw [evSs_cons, evS_asg, evE_call]
      simp only [evEs_cons, evEs_nil, evE_var, getV_s, getV_0, bind_ok, hm, thenS_ok, setE_s, setE_0, nx_then]
      rw [evSs_cons, evS_ifs, hc, thenS_ok]
      dsimp only
      rw [evSs_cons, evS_asg, evE_str, thenS_ok, nx_then]
      simp only [setE_s, setE_0]
      rw [evSs_cons, evS_ret]
      rw [show (Str.ofString "abcdefgh ijklmnopqrstuvwxyz") = letters from rfl, (txtE _ s).2]
      rfl
  · have hc : ∀ (F : Fn) (s : Sto), evE F (.orr (.cons (.cmp .eq (.var 2) (.int 2)) (.cons (.an (.cons (.cmp .eq (.var 2) (.int 0)) (.cons (.cmp .eq (.bin .mod (.var 3) (.int 2)) (.int 1)) .nil))) .nil))) [some (.scr ns), some (.int k), some (.int κ), some (.int v), none, none, none] s = .ok (.bl false) s := fun F s => by
      have h2 : ¬ κ = 2 := fun h => ht (.inl h)
      by_cases hz : κ = 0
      · subst hz
        have h3 : ¬ v % 2 = 1 := fun h => ht (.inr ⟨rfl, h⟩)
        simp [h3]
      · simp [h2, hz]
    by_cases h3 : κ = 3
    · subst h3
      refine ⟨.tup [.int (v / 3 % 1000003), .int (v / 11 % 1000003)], ⟨⟨_, _, rfl, pm_mod, pm_mod⟩, Nat.zero_le _⟩, fun n s => ?_⟩
      rw [runT_go [some (.scr ns), some (.int k), some (.int 3), none, none, none, none] H.thing rfl rfl]
      unfold d_thing
      dsimp only
      rw [evSs_cons, evS_asg, evE_call]
      simp only [evEs_cons, evEs_nil, evE_var, getV_s, getV_0, bind_ok, hm, thenS_ok, setE_s, setE_0, nx_then]
      rw [evSs_cons, evS_ifs, hc, thenS_ok]
      have c3 : (0 : Int) < 3 ∧ (3 : Int).natAbs.log2 < 9000 := by decide
      have c11 : (0 : Int) < 11 ∧ (11 : Int).natAbs.log2 < 9000 := by decide
      simp
    · have c5 : (0 : Int) < 5 ∧ (5 : Int).natAbs.log2 < 9000 := by decide
      have c15 : (0 : Int) < 15 ∧ (15 : Int).natAbs.log2 < 9000 := by decide
      have c3 : (0 : Int) < 3 := by decide
      have i3 := emod_in (v := v / 5) c3
      obtain ⟨w, hw, hwl, hix⟩ : ∃ w : Int, 0 < w ∧ Sm 200 w ∧ ∀ s : Sto, ixD (.lst [.int 9, .int 1000, .int (10 ^ 60)]) (.int (v / 5 % 3)) s = .ok (.int w) s := by
        have : v / 5 % 3 = 0 ∨ v / 5 % 3 = 1 ∨ v / 5 % 3 = 2 := by omega
        rcases this with e | e | e <;> rw [e]
        · exact ⟨9, by decide, by unfold Sm; decide, fun s => rfl⟩
        · exact ⟨1000, by decide, by unfold Sm; decide, fun s => rfl⟩
        · exact ⟨10 ^ 60, by decide, by unfold Sm; decide, fun s => rfl⟩
      refine ⟨.int (v / 15 % (2 * w - 1) - (w - 1)), ?_, fun n s => ?_⟩
      · exact way_int H (fun h => ht (.inl h)) h3
      rw [runT_go [some (.scr ns), some (.int k), some (.int κ), none, none, none, none] H.thing rfl rfl]
      unfold d_thing
      dsimp only
      rw [evSs_cons, evS_asg, evE_call]
      simp only [evEs_cons, evEs_nil, evE_var, getV_s, getV_0, bind_ok, hm, thenS_ok, setE_s, setE_0, nx_then]
      rw [evSs_cons, evS_ifs, hc, thenS_ok]
      have pw : (0 : Int) ≤ 60 ∧ (60 : Int) ≤ 1000000 ∧ (10 : Int).natAbs < 2 ^ 64 := by decide
      have m1 : mulOk 2 w := mul_ok (a := 3) (by unfold Sm; decide) hwl (by decide)
      have m2 : 0 < 2 * w - 1 := by omega
      have m3 : 0 < (3 : Int) := by decide
      have ez : (60 : Int).toNat = 60 := rfl
      have e3 : cmpD .eq (.int κ) (.int 3) s = .ok (.bl false) s := by simp [h3]
      simp only [evSs_nil, nx_then, evSs_cons, evS_ifs, evE_cmp, evE_var, evE_int, getV_s, getV_0, bind_ok, e3, thenS_ok, evS_asg, evE_ix, evE_lst, evEs_cons, evEs_nil, evE_bin, bin_pow, if_pos pw, ez]
      rw [if_pos (by simp)]
      simp only [bin_fdiv, if_pos c5, bin_mod, if_pos m3, bind_ok, hix, thenS_ok, setE_s, setE_0, nx_then]
      simp only [evSs_cons, evS_ret, evE_bin, evE_var, evE_int, getV_s, getV_0, bind_ok, bin_fdiv, if_pos c15, bin_mul, if_pos m1, bin_sub, bin_mod, if_pos m2, thenS_ok, rt_then]
      rfl
end MP
/-! M6: a make's things, a list's sum, a make that is grown. -/
namespace MP
open PySem
variable {T : FK → Option Def}

theorem run_things (h : T (.f "_law_things") = some d_things) : ∀ {t : Tr} {n : Nat} {s : Sto}, t.hgt < n → t.cnt ≤ 1000000 → runT T n (.f "_law_things") [t.d] s = .ok (.lst t.things) s
  | .nil, n, s, hn, _ => by
    obtain ⟨m, rfl⟩ : ∃ m, n = m + 1 := ⟨n - 1, by omega⟩
    rw [runT_at h]
    simp [d_things, envOf, Tr.d, Tr.things]
  | .nd num ab l x r sz ht f b, n, s, hn, hc => by
    obtain ⟨m, rfl⟩ : ∃ m, n = m + 1 := ⟨n - 1, by omega⟩
    simp only [Tr.hgt, Tr.cnt] at hn hc
    have e1 := run_things h (t := l) (n := m) (s := s) (by omega) (by omega)
    have e2 := run_things h (t := r) (n := m) (s := s) (by omega) (by omega)
    have l1 : l.things.length + 1 ≤ 16777216 := by rw [Tr.things_len]; omega
    have l2 : l.things.length + 1 + r.things.length ≤ 16777216 := by rw [Tr.things_len, Tr.things_len]; omega
    have l3 : l.things.length + (r.things.length + 1) ≤ 16777216 := by omega
    rw [runT_at h]
    cases ab <;> simp [d_things, envOf, Tr.d, Tr.things, e1, e2, l1, l2, l3, revD, seqOf]
theorem way_A (H : HA T) {κ : Int} (h : ¬ κ = 0) : ∃ x, (way H κ).A = .fn x := by
  unfold way
  rw [if_neg h]
  by_cases e1 : κ = 1
  · rw [if_pos e1]; exact ⟨_, rfl⟩
  · rw [if_neg e1]
    by_cases e2 : κ = 2
    · rw [if_pos e2]; exact ⟨_, rfl⟩
    · rw [if_neg e2]
      by_cases e3 : κ = 3
      · rw [if_pos e3]; exact ⟨_, rfl⟩
      · rw [if_neg e3]; exact ⟨_, rfl⟩
@[simp] theorem cutD_1 {x : D} {xs : List D} : cutD (x :: xs) (some 1) none = xs := by
  unfold cutD
  have e1 : HT.sIx (x :: xs).length 0 (some 1) = 1 := by
    refine (HT.sIx_nat (x :: xs).length 0 1).trans ?_
    rw [List.length_cons]; omega
  rw [e1]
  have e2 : HT.sIx (x :: xs).length (x :: xs).length none = xs.length + 1 := rfl
  rw [e2]
  simp
@[simp] theorem slD_lst {xs : List D} {l h : Option Int} {s : Sto} : slD (.lst xs) l h s = .ok (.lst (cutD xs l h)) s := rfl
@[simp] theorem seqW_lst {xs : List D} : seqW (.lst xs) = some xs := rfl
theorem cutD_to {xs : List D} {m : Nat} : cutD xs none (some (m : Int)) = xs.take m := by
  unfold cutD
  rw [HT.sIx_nat, show HT.sIx xs.length 0 none = 0 from rfl, List.drop_zero, Nat.sub_zero]
  by_cases h : m ≤ xs.length
  · rw [Nat.min_eq_left h]
  · rw [Nat.min_eq_right (by omega), List.take_length, List.take_of_length_le (by omega)]
theorem cutD_from {xs : List D} {m : Nat} : cutD xs (some (m : Int)) none = xs.drop m := by
  unfold cutD
  rw [HT.sIx_nat, show HT.sIx xs.length xs.length none = xs.length from rfl]
  by_cases h : m ≤ xs.length
  · rw [Nat.min_eq_left h, List.take_of_length_le (by rw [List.length_drop]; omega)]
  · rw [Nat.min_eq_right (by omega), List.drop_length, List.drop_eq_nil_of_le (by omega)]
    simp
theorem ix_lst_nat {xs : List D} {m : Nat} {s : Sto} : ixD (.lst xs) (.int (m : Int)) s = okO xs[m]? s := by
  rw [ix_lst, atI_nat]
theorem inn4 {i a b c d : Int} {s : Sto} : cmpD .inn (.int i) (.tup [.int a, .int b, .int c, .int d]) s = .ok (.bl (decide (i = a ∨ i = b ∨ i = c ∨ i = d))) s := by
  show (if min (PyData.depthAll [.int a, .int b, .int c, .int d]) (PyData.int i).depth ≤ 100 then Res.ok (D.bl ([PyData.int a, .int b, .int c, .int d].any fun q => PyData.eqv q (.int i))) s else .bad) = _
  rw [if_pos (by simp [PyData.depthAll, PyData.depth])]
  have e : ([PyData.int a, .int b, .int c, .int d].any fun q => PyData.eqv q (.int i)) = decide (i = a ∨ i = b ∨ i = c ∨ i = d) := by
    rw [Bool.eq_iff_iff]
    simp only [List.any_cons, List.any_nil, PyData.eqv, Bool.or_false, Bool.or_eq_true, beq_iff_eq, decide_eq_true_eq]
    omega
  rw [e]
theorem run_lsum (H : HA T) (h : T (.f "_law_sum") = some d_sum) {κ : Int} (hκ : 0 ≤ κ) {xs : List D} (px : ∀ z ∈ xs, (way H κ).Th z) (hl : xs.length ≤ 5000) {n : Nat} {s : Sto} : runT T (n + 2) (.f "_law_sum") [.int κ, .lst xs] s = .ok ((way H κ).sum xs) s := by
  rw [runT_at h]
  by_cases h0 : κ = 0
  · subst h0
    simp [d_sum, envOf, Way.sum, way, wayN]
  · obtain ⟨x, hA⟩ := way_A H h0
    have q := eqD_nil (s := s) (fun z hz => (way H κ).pl (px z hz).1)
    cases xs with
    | nil =>
      simp [d_sum, envOf, h0, q, Way.sum, Way.fold]
    | cons y ys =>
      have hrun := (way H κ).run
      rcases hrun with e | ⟨x', e, hrun⟩
      · rw [hA] at e; cases e
      rw [hA] at e
      cases e
      have loop : ∀ (ls ys : List D) (a : D) (e3 : Option D) (m : Nat), (way H κ).P a → (way H κ).wt a ≤ 64 * m → m + ys.length ≤ 6000 → (∀ z ∈ ys, (way H κ).Th z) →
          ∃ e3', forN (set1 3) (evSs (runT T (n + 1)) (.cons (.asg 2 (.callc (.call "_law_adding" (.cons (.var 0) .nil)) (.cons (.var 2) (.cons (.var 3) .nil)))) .nil)) ys [some (.int κ), some (.lst ls), some a, e3] s = .nx [some (.int κ), some (.lst ls), some (ys.foldl (way H κ).op a), e3'] s := by
        intro ls ys
        induction ys with
        | nil => intro a e3 m _ _ _ _; exact ⟨e3, rfl⟩
        | cons z ys ih =>
          intro a e3 m pa wa hm hz
          have tz := hz z (List.mem_cons_self ..)
          have c := hrun n s a z pa tz.1 (by have := tz.2; simp at hm; omega)
          have w2 := (way H κ).wo pa tz.1
          obtain ⟨e3', hh⟩ := ih ((way H κ).op a z) (some z) (m + 1) ((way H κ).cl pa tz.1) (by have := tz.2; omega) (by simp at hm; omega) fun u hu => hz u (List.mem_cons_of_mem _ hu)
          refine ⟨e3', ?_⟩
          rw [forN]
          simp only [set1, setE_s, setE_0, nx_then, evSs_cons, evS_asg, evE_callc, evE_call, evEs_cons, evEs_nil, evE_var, getV_s, getV_0, bind_ok, run_adding H hκ, hA, c, thenS_ok, evSs_nil]
          exact hh
      obtain ⟨e3', hloop⟩ := loop (y :: ys) ys y none 1 (px y (List.mem_cons_self ..)).1 (px y (List.mem_cons_self ..)).2 (by simp at hl; omega) fun z hz => px z (List.mem_cons_of_mem _ hz)
      simp [d_sum, envOf, h0, q, Way.sum, Way.fold, hA, hloop]
end MP
/-! M7: a make that is grown. -/
namespace MP
open PySem
variable {T : FK → Option Def}

/-- the store of a wood w and a pen p -/
def pw (A : D) (s : Sto) (w p : Nat) (k q : Int) : Sto := (s.set p (.lst [.int q])).set w (woodC A k)
section
variable {A : D} {s : Sto} {w p : Nat} {k q k' q' : Int}
theorem pw_w : (pw A s w p k q).m w = some (woodC A k) := by simp [pw]
theorem pw_p (h : w ≠ p) : (pw A s w p k q).m p = some (.lst [.int q]) := by
  unfold pw; rw [set_ne (Ne.symm h)]; simp
theorem pw_pw (h : w ≠ p) : pw A (pw A s w p k q) w p k' q' = pw A s w p k' q' := by
  unfold pw Sto.set
  congr
  funext j
  by_cases h1 : j = w
  · simp [h1]
  · by_cases h2 : j = p <;> simp [h1, h2]
theorem pw_setw : (pw A s w p k q).set w (woodC A k') = pw A s w p k' q := by unfold pw; rw [set_set]
theorem pw_setp (h : w ≠ p) : (pw A s w p k q).set p (.lst [.int q']) = pw A s w p k q' := by
  unfold pw Sto.set
  congr
  funext j
  by_cases h1 : j = w
  · subst h1; simp [h]
  · by_cases h2 : j = p
    · subst h2; simp [h1]
    · simp [h1, h2]
theorem pw_id (h1 : s.m w = some (woodC A k)) (h2 : s.m p = some (.lst [.int q])) : pw A s w p k q = s := by
  unfold pw Sto.set
  cases s with
  | mk nx m =>
    simp only [Sto.mk.injEq, true_and]
    funext j
    by_cases e1 : j = w
    · subst e1; simp; exact h1.symm
    · by_cases e2 : j = p
      · subst e2; simp [e1]; exact h2.symm
      · simp [e1, e2]
theorem pw_nx : (pw A s w p k q).nx = s.nx := rfl
theorem pw_ne {i : Nat} (h1 : i ≠ w) (h2 : i ≠ p) : (pw A s w p k q).m i = s.m i := by
  unfold pw; rw [set_ne h1, set_ne h2]
end
structure HG (T : FK → Option Def) : Prop where
  n : HN T
  a : HA T
  grown : T (.f "_law_grown") = some d_grown
  turned : T (.m "Wood" "turned") = some d_Wood_turned
/-- a make turned about -/
def Tr.turn (k : Int) : Tr → Tr
  | .nil => .nil
  | .nd _ ab l x r sz ht f b => .nd k (!ab) l x r sz ht b f
theorem Tr.turn_things {k : Int} {t : Tr} : (t.turn k).things = t.things.reverse := by
  cases t with
  | nil => rfl
  | nd num ab l x r sz ht f b => cases ab <;> simp [Tr.turn, Tr.things]
theorem Tr.turn_hgt {k : Int} {t : Tr} : (t.turn k).hgt = t.hgt := by cases t <;> rfl
theorem Tr.turn_cnt {k : Int} {t : Tr} : (t.turn k).cnt = t.cnt := by cases t <;> rfl
theorem Good.turn {W : Way T} {k : Int} {t : Tr} (g : Good W t) : Good W (t.turn k) := by
  cases g with
  | nil => exact .nil
  | @nd num ab l x r sz ht f b gl gr tx h1 h2 h3 h4 h5 h6 =>
    have e : (Tr.nd k (!ab) l x r sz ht b f).things = (Tr.nd num ab l x r sz ht f b).things.reverse := Tr.turn_things (k := k) (t := .nd num ab l x r sz ht f b)
    refine .nd gl gr tx h1 h2 h3 h4 ?_ ?_
    · rw [e]; exact h6
    · rw [e, List.reverse_reverse]; exact h5
theorem run_turn {t : Tr} {A : D} {k : Int} {n w : Nat} {s : Sto} (h : T (.m "Wood" "turned") = some d_Wood_turned) (h2 : T (.m "Wood" "next_number") = some d_Wood_next_number) (hs : s.m w = some (woodC A k)) (ht : isNon t.d = false) :
    runT T (n + 2) (.m "Wood" "turned") [.cell w, t.d] s = .ok (t.turn k).d (s.set w (woodC A (k + 1))) := by
  cases t with
  | nil => cases ht
  | nd num ab l x r sz ht f b => exact run_turned h h2 hs
@[simp] theorem lookup_wood {A : D} {k : Int} {m : String} : List.lookup (Str.ofString m) [(Str.ofString "adding", A), (Str.ofString "numbered", D.int k)] = if m = "adding" then some A else if m = "numbered" then some (.int k) else none := by
  simp
def grownS : Ss := .cons (.ifs (.cmp .eq (.bin .mod (.bin .fdiv (.var 5) (.int 14)) (.int 2)) (.int 1)) (.cons (.par 7 8 (.var 8) (.var 7)) .nil) .nil)
  (.cons (.asg 9 (.meth (.var 0) "node" (.cons (.var 7) (.cons (.call "_law_thing" (.cons (.var 1) (.cons (.bin .add (.ix (.var 2) (.int 0)) (.int 1)) (.cons (.var 4) .nil)))) (.cons (.var 8) .nil)))))
  (.cons (.ifs (.cmp .eq (.bin .mod (.bin .fdiv (.var 5) (.int 28)) (.int 3)) (.int 1)) (.cons (.ret (.meth (.var 0) "turned" (.cons (.var 9) .nil))) .nil) .nil)
  (.cons (.ret (.var 9)) .nil)))
theorem nd_non {W : Way T} {k : Int} {l r : Tr} {x : D} : isNon (mkNode W k l x r).d = false := rfl
theorem run_grownS (G : HG T) {ns : List Int} (hns : ns.length ≤ 63) {κ : Int} (hκ : 0 ≤ κ) (hκ4 : κ ≤ 4) {w p : Nat} (hwp : w ≠ p) {s : Sto} {k q h v : Int} {e6 e9 : Option D} {l r : Tr} (hq0 : 0 ≤ q) (hq : q < 2 ^ 50) (hv : 0 ≤ v) (gl : Good (way G.a κ) l) (gr : Good (way G.a κ) r) (h1 : l.hgt ≤ r.hgt + 1) (h2 : r.hgt ≤ l.hgt + 1)
    (hc : l.cnt + r.cnt + 1 ≤ 2000) {n : Nat} : ∃ t k', k < k' ∧ evSs (runT T (n + 4)) grownS [some (.cell w), some (.scr ns), some (.cell p), some (.int h), some (.int κ), some (.int v), e6, some l.d, some r.d, e9] (pw (way G.a κ).A s w p k q) = .rt t.d (pw (way G.a κ).A s w p k' q) ∧
      Good (way G.a κ) t ∧ t.hgt = 1 + max l.hgt r.hgt ∧ t.cnt = l.cnt + r.cnt + 1 := by
  obtain ⟨x, hx, hrx⟩ := run_thing G.a hns (k := q + 1) (κ := κ) (by omega) (by omega) hκ hκ4
  have core : ∀ (l r : Tr), Good (way G.a κ) l → Good (way G.a κ) r → l.hgt ≤ r.hgt + 1 → r.hgt ≤ l.hgt + 1 → l.cnt + r.cnt + 1 ≤ 2000 → ∃ t k', k < k' ∧ evSs (runT T (n + 4)) (.cons (.asg 9 (.meth (.var 0) "node" (.cons (.var 7) (.cons (.call "_law_thing" (.cons (.var 1) (.cons (.bin .add (.ix (.var 2) (.int 0)) (.int 1)) (.cons (.var 4) .nil)))) (.cons (.var 8) .nil)))))
  (.cons (.ifs (.cmp .eq (.bin .mod (.bin .fdiv (.var 5) (.int 28)) (.int 3)) (.int 1)) (.cons (.ret (.meth (.var 0) "turned" (.cons (.var 9) .nil))) .nil) .nil)
  (.cons (.ret (.var 9)) .nil))) [some (.cell w), some (.scr ns), some (.cell p), some (.int h), some (.int κ), some (.int v), e6, some l.d, some r.d, e9] (pw (way G.a κ).A s w p k q) = .rt t.d (pw (way G.a κ).A s w p k' q) ∧
      Good (way G.a κ) t ∧ t.hgt = 1 + max l.hgt r.hgt ∧ t.cnt = l.cnt + r.cnt + 1 := by
    intro l r gl gr h1 h2 hc
    have hw := pw_w (A := (way G.a κ).A) (s := s) (w := w) (p := p) (k := k) (q := q)
    have hw' : (pw (way G.a κ).A s w p k q).m w = some (.ins "Wood" [("adding", (way G.a κ).A), ("numbered", .int k)]) := hw
    have hp := pw_p (A := (way G.a κ).A) (s := s) (k := k) (q := q) hwp
    have q1 := run_node (n := n + 1) (k := k) G.n hw gl gr hx hc h1 h2
    rw [pw_setw] at q1
    have gn := mkNode_good (k := k) gl gr hx h1 h2
    have hw2 := pw_w (A := (way G.a κ).A) (s := s) (w := w) (p := p) (k := k + 1) (q := q)
    have hw2' : (pw (way G.a κ).A s w p (k + 1) q).m w = some (.ins "Wood" [("adding", (way G.a κ).A), ("numbered", .int (k + 1))]) := hw2
    have q2 := run_turn (n := n + 2) (t := mkNode (way G.a κ) k l x r) G.turned G.n.next hw2 rfl
    rw [pw_setw] at q2
    by_cases hd : v / 28 % 3 = 1
    · refine ⟨(mkNode (way G.a κ) k l x r).turn (k + 1), k + 1 + 1, by omega, ?_, gn.turn, by rw [Tr.turn_hgt]; rfl, by rw [Tr.turn_cnt]; rfl⟩
      simp [hw', hp, hrx, q1, hd, hw2', q2]
    · refine ⟨mkNode (way G.a κ) k l x r, k + 1, by omega, ?_, gn, rfl, rfl⟩
      simp [hw', hp, hrx, q1, hd]
  unfold grownS
  by_cases hd : v / 14 % 2 = 1
  · obtain ⟨t, k', a, b, c, d, e⟩ := core r l gr gl h2 h1 (by omega)
    refine ⟨t, k', a, ?_, c, by rw [d]; omega, by rw [e]; omega⟩
    rw [evSs_cons, evS_ifs]
    simp only [evE_cmp, evE_bin, evE_var, evE_int, getV_s, getV_0, bind_ok]
    simp only [bin_fdiv_lit (i := v) (j := 14) (by decide) (by decide), bind_ok, bin_mod, if_pos (show (0 : Int) < 2 by decide), cmp_eq, eqD_int, Option.map_some, okO_some, thenS_ok, decide_eq_true hd, evSs_cons, evS_par, evE_var, getV_s, getV_0, setE_s, setE_0, evSs_nil, nx_then]
    exact b
  · obtain ⟨t, k', a, b, c, d, e⟩ := core l r gl gr h1 h2 hc
    refine ⟨t, k', a, ?_, c, d, e⟩
    rw [evSs_cons, evS_ifs]
    simp only [evE_cmp, evE_bin, evE_var, evE_int, getV_s, getV_0, bind_ok]
    simp only [bin_fdiv_lit (i := v) (j := 14) (by decide) (by decide), bind_ok, bin_mod, if_pos (show (0 : Int) < 2 by decide), cmp_eq, eqD_int, Option.map_some, okO_some, thenS_ok, decide_eq_false hd, evSs_nil, nx_then]
    exact b
theorem pow2 {a b : Nat} (h : a ≤ b) : 2 ^ a ≤ 2 ^ b := Nat.pow_le_pow_right (by decide) h
theorem run_grown (G : HG T) {ns : List Int} (hns : ns.length ≤ 63) {κ : Int} (hκ : 0 ≤ κ) (hκ4 : κ ≤ 4) {w p : Nat} (hwp : w ≠ p) : ∀ (m : Nat) {h k q : Int} {n : Nat} {s : Sto}, h ≤ m → m ≤ 10 → 0 ≤ q → q + 3 * 2 ^ (m + 1) < 2 ^ 50 → m + 6 ≤ n → s.m w = some (woodC (way G.a κ).A k) → s.m p = some (.lst [.int q]) →
    ∃ t k' q', k ≤ k' ∧ q ≤ q' ∧ q' + 3 ≤ q + 3 * 2 ^ (m + 1) ∧ runT T n (.f "_law_grown") [.cell w, .scr ns, .cell p, .int h, .int κ] s = .ok t.d (pw (way G.a κ).A s w p k' q') ∧ Good (way G.a κ) t ∧ t.hgt = h.toNat := by
  intro m
  induction m with
  | zero =>
    intro h k q n s hh hm hq0 hq hn hw hp
    obtain ⟨n, rfl⟩ : ∃ n', n = n' + 1 := ⟨n - 1, by omega⟩
    have hmx : runT T n (.f "_law_mixed") [.scr ns, .int (q + 3)] (pw (way G.a κ).A s w p k (q + 3)) = .ok (.int (mx ns (q + 3))) (pw (way G.a κ).A s w p k (q + 3)) := by
      obtain ⟨n, rfl⟩ : ∃ n', n = n' + 1 := ⟨n - 1, by omega⟩
      exact run_mixed G.a.mixed hns (by omega) (by omega)
    refine ⟨.nil, k, q + 3, by omega, by omega, by omega, ?_, .nil, by show 0 = _; omega⟩
    have st : s.set p (.lst [.int (q + 3)]) = pw (way G.a κ).A s w p k (q + 3) := by
      conv => lhs; rw [← pw_id hw hp, pw_setp hwp]
    have hp2 := pw_p (A := (way G.a κ).A) (s := s) (k := k) (q := q + 3) hwp
    have hl : h < 1 := by omega
    rw [runT_at G.grown]
    simp [d_grown, envOf, hp, sixD, L2.ixN, st, hp2, hmx, hl, Tr.d]
  | succ m ih =>
    intro h k q n s hh hm hq0 hq hn hw hp
    obtain ⟨n, rfl⟩ : ∃ n', n = n' + 1 := ⟨n - 1, by omega⟩
    have e2 : (2 : Int) ^ (m + 1 + 1) = 2 * 2 ^ (m + 1) := by rw [Int.pow_succ]; omega
    have e3 : (0 : Int) < 2 ^ (m + 1) := Int.pow_pos (by decide)
    have hmx : runT T n (.f "_law_mixed") [.scr ns, .int (q + 3)] (pw (way G.a κ).A s w p k (q + 3)) = .ok (.int (mx ns (q + 3))) (pw (way G.a κ).A s w p k (q + 3)) := by
      obtain ⟨n, rfl⟩ : ∃ n', n = n' + 1 := ⟨n - 1, by omega⟩
      exact run_mixed G.a.mixed hns (by omega) (by omega)
    have hv : 0 ≤ mx ns (q + 3) := (mx_sm (by omega) (by omega)).2
    generalize mx ns (q + 3) = v at hmx hv
    have st : s.set p (.lst [.int (q + 3)]) = pw (way G.a κ).A s w p k (q + 3) := by
      conv => lhs; rw [← pw_id hw hp, pw_setp hwp]
    have hp2 := pw_p (A := (way G.a κ).A) (s := s) (k := k) (q := q + 3) hwp
    by_cases hl : h < 1
    · refine ⟨.nil, k, q + 3, by omega, by omega, by omega, ?_, .nil, by show 0 = _; omega⟩
      rw [runT_at G.grown]
      simp [d_grown, envOf, hp, sixD, L2.ixN, st, hp2, hmx, hl, Tr.d]
    · obtain ⟨l, k1, q1, hk1, hq1, hq1', rl, gl, hl1⟩ := ih (h := h - 1) (k := k) (q := q + 3) (n := n) (s := pw (way G.a κ).A s w p k (q + 3)) (by omega) (by omega) (by omega) (by omega) (by omega) pw_w hp2
      rw [pw_pw hwp] at rl
      have m2 := emod_in (v := v) (m := 2) (by decide)
      obtain ⟨r, k2, q2, hk2, hq2, hq2', rr, gr, hr1⟩ := ih (h := h - 1 - v % 2) (k := k1) (q := q1) (n := n) (s := pw (way G.a κ).A s w p k1 q1) (by omega) (by omega) (by omega) (by omega) (by omega) pw_w (pw_p hwp)
      rw [pw_pw hwp] at rr
      have lc := Tr.cnt_hgt l
      have rc := Tr.cnt_hgt r
      have pl := pow2 (a := l.hgt) (b := 9) (by omega)
      have pr := pow2 (a := r.hgt) (b := 9) (by omega)
      have p9 : 2 ^ 9 = 512 := by decide
      obtain ⟨n, rfl⟩ : ∃ n', n = n' + 4 := ⟨n - 4, by omega⟩
      by_cases hd : 0 < v / 2 % 7
      · obtain ⟨t, k', hk', run, g, th, tc⟩ := run_grownS G hns hκ hκ4 hwp (s := s) (k := k2) (q := q2) (h := h) (v := v) (e6 := some (.int (h - 1 - v % 2))) (e9 := none) (n := n) (by omega) (by omega) hv gl gr (by omega) (by omega) (by omega)
        refine ⟨t, k', q2, by omega, by omega, by omega, ?_, g, by omega⟩
        rw [runT_go [some (.cell w), some (.scr ns), some (.cell p), some (.int h), some (.int κ), none, none, none, none, none] G.grown rfl rfl]
        have e : evSs (runT T (n + 4)) (takeS 7 d_grown.b) [some (.cell w), some (.scr ns), some (.cell p), some (.int h), some (.int κ), none, none, none, none, none] s = .nx [some (.cell w), some (.scr ns), some (.cell p), some (.int h), some (.int κ), some (.int v), some (.int (h - 1 - v % 2)), some l.d, some r.d, none] (pw (way G.a κ).A s w p k2 q2) := by
          simp [d_grown, takeS, hp, sixD, L2.ixN, st, hp2, hmx, hl, rl, rr, hd]
        rw [seg 7 e, show dropS 7 d_grown.b = grownS from rfl, run]
        rfl
      · obtain ⟨t, k', hk', run, g, th, tc⟩ := run_grownS G hns hκ hκ4 hwp (s := s) (k := k1) (q := q1) (h := h) (v := v) (e6 := some (.int (h - 1 - v % 2))) (e9 := none) (n := n) (by omega) (by omega) hv gl gl (by omega) (by omega) (by omega)
        refine ⟨t, k', q1, by omega, by omega, by omega, ?_, g, by omega⟩
        rw [runT_go [some (.cell w), some (.scr ns), some (.cell p), some (.int h), some (.int κ), none, none, none, none, none] G.grown rfl rfl]
        have e : evSs (runT T (n + 4)) (takeS 7 d_grown.b) [some (.cell w), some (.scr ns), some (.cell p), some (.int h), some (.int κ), none, none, none, none, none] s = .nx [some (.cell w), some (.scr ns), some (.cell p), some (.int h), some (.int κ), some (.int v), some (.int (h - 1 - v % 2)), some l.d, some l.d, none] (pw (way G.a κ).A s w p k1 q1) := by
          simp [d_grown, takeS, hp, sixD, L2.ixN, st, hp2, hmx, hl, rl, hd]
        rw [seg 7 e, show dropS 7 d_grown.b = grownS from rfl, run]
        rfl
end MP
/-! K03: turned about. -/
namespace MP
open PySem
variable {T : FK → Option Def}

/-- the store with one wood and one pen -/
def stoWP (A : D) (k q : Int) : Sto := ⟨2, fun j => if j = 0 then some (woodC A k) else if j = 1 then some (.lst [.int q]) else none⟩
theorem sto_w {A : D} {k q : Int} : (stoWP A k q).m 0 = some (woodC A k) := rfl
theorem sto_p {A : D} {k q : Int} : (stoWP A k q).m 1 = some (.lst [.int q]) := rfl
theorem sto_pw {A : D} {k q k' q' : Int} : pw A (stoWP A k q) 0 1 k' q' = stoWP A k' q' := by
  unfold pw stoWP Sto.set
  congr
  funext j
  by_cases h : j = 0
  · simp [h]
  · by_cases h1 : j = 1 <;> simp [h, h1]
theorem sto_set {A : D} {k q k' : Int} : (stoWP A k q).set 0 (woodC A k') = stoWP A k' q := by
  unfold stoWP Sto.set
  congr
  funext j
  by_cases h : j = 0 <;> simp [h]
/-- a wood alone -/
def stoW (A : D) (k : Int) : Sto := ⟨1, fun j => if j = 0 then some (woodC A k) else none⟩
theorem sto_1 {A : D} : (sto0.new (.ins "Wood" [])).set 0 (woodC A 0) = stoW A 0 := by
  unfold stoW sto0 Sto.set Sto.new
  congr
  funext j
  by_cases h : j = 0 <;> simp [h]
theorem sto_2 {A : D} {k q : Int} : (stoW A k).new (.lst [.int q]) = stoWP A k q := by
  unfold stoW stoWP Sto.new
  congr
  funext j
  by_cases h : j = 0
  · simp [h]
  · simp [h]
theorem sto_nx {A : D} {k : Int} : (stoW A k).nx = 1 := rfl
theorem run_mkWood (hI : T (.m "Wood" "__init__") = some d_Wood_init) {n : Nat} {A : D} : runT T (n + 1) (.m "Wood" "__init__") [.cell sto0.nx, A] (sto0.new (.ins "Wood" [])) = .ok .non (stoW A 0) := by
  rw [run_init hI (by rfl), ← sto_1]
  rfl
theorem th_pln {W : Way T} {xs : List D} (h : ∀ z ∈ xs, W.Th z) : Pln 4 (.lst xs) := pln_lst fun z hz => W.pl (h z hz).1
theorem law_k03 (G : HG T) (hI : T (.m "Wood" "__init__") = some d_Wood_init) (hM : T (.m "Wood" "made") = some d_Wood_made) (hT : T (.f "_law_things") = some d_things) (hS : T (.f "_law_sum") = some d_sum) (hL : T (.f "law") = some d_law_2) : Law T 40 := by
  intro ns hns
  have m5 := emod_in (v := mx ns 0) (m := 5) (by decide)
  have hm0 : ∀ s, runT T 39 (.f "_law_mixed") [.scr ns, .int 0] s = .ok (.int (mx ns 0)) s := fun s => run_mixed G.a.mixed hns (by decide) (by decide)
  have hm2 : ∀ s, runT T 39 (.f "_law_mixed") [.scr ns, .int 2] s = .ok (.int (mx ns 2)) s := fun s => run_mixed G.a.mixed hns (by decide) (by decide)
  have hκ : 0 ≤ mx ns 0 % 5 ∧ mx ns 0 % 5 ≤ 4 := ⟨m5.1, by omega⟩
  have m6 := emod_in (v := mx ns 2) (m := 6) (by decide)
  rw [runT_go [some (.scr ns), none, none, none, none, none, none, none] hL rfl rfl]
  have e1 : evSs (runT T 39) (takeS 1 d_law_2.b) [some (.scr ns), none, none, none, none, none, none, none] sto0 = .nx [some (.scr ns), some (.int (mx ns 0 % 5)), none, none, none, none, none, none] sto0 := by
    simp [d_law_2, takeS, hm0]
  rw [seg 1 e1]
  generalize mx ns 0 % 5 = κ at hκ
  have hA : ∀ s, runT T 39 (.f "_law_adding") [.int κ] s = .ok (way G.a κ).A s := fun s => run_adding G.a hκ.1
  obtain ⟨t, k, q, hk, _, _, hg, gt, gh⟩ := run_grown G hns hκ.1 hκ.2 (w := 0) (p := 1) (by decide) 5 (h := mx ns 2 % 6) (k := 0) (q := 10) (n := 39) (s := stoWP (way G.a κ).A 0 10) (by omega) (by decide) (by decide) (by decide) (by decide) sto_w sto_p
  rw [sto_pw] at hg
  generalize hW : way G.a κ = W at *
  have hi := run_mkWood hI (n := 38) (A := W.A)
  have e2 : evSs (runT T 39) (takeS 2 (dropS 1 d_law_2.b)) [some (.scr ns), some (.int κ), none, none, none, none, none, none] sto0 = .nx [some (.scr ns), some (.int κ), some (.cell 0), some t.d, none, none, none, none] (stoWP W.A k q) := by
    have z : sto0.nx = 0 := rfl
    rw [z] at hi
    simp [d_law_2, takeS, dropS, hA, hi, hm2, sto_nx, sto_2, hg, z]
  rw [seg 2 e2]
  have hw := sto_w (A := W.A) (k := k) (q := q)
  have hw' : (stoWP W.A k q).m 0 = some (.ins "Wood" [("adding", W.A), ("numbered", .int k)]) := hw
  have hmade := run_made hM (n := 38) hw
  have hmade2 := run_made hM (n := 38) (sto_w (A := W.A) (k := k + 1) (q := q))
  have ht0 := run_turned0 (n := 38) (w := 0) (s := stoWP W.A k q) G.turned
  have e3 : evSs (runT T 39) (takeS 2 (dropS 2 (dropS 1 d_law_2.b))) [some (.scr ns), some (.int κ), some (.cell 0), some t.d, none, none, none, none] (stoWP W.A k q) = .nx [some (.scr ns), some (.int κ), some (.cell 0), some t.d, some (.int k), none, none, none] (stoWP W.A k q) := by
    simp [d_law_2, takeS, dropS, hw', hmade, ht0]
  rw [seg 2 e3]
  cases t with
  | nil => exact ⟨stoWP W.A k q, by simp [d_law_2, dropS, Tr.d]⟩
  | nd num ab l x r sz ht f b =>
  have th := gt.th
  have hth : ∀ s, runT T 39 (.f "_law_things") [(Tr.nd num ab l x r sz ht f b).d] s = .ok (.lst (Tr.nd num ab l x r sz ht f b).things) s := fun s => run_things hT (by omega) (by
    have := Tr.cnt_hgt (Tr.nd num ab l x r sz ht f b)
    have := pow2 (a := (Tr.nd num ab l x r sz ht f b).hgt) (b := 5) (by omega)
    omega)
  have g2 := gt.turn (k := k)
  have tt := Tr.turn_things (k := k) (t := .nd num ab l x r sz ht f b)
  have hth2 : ∀ s, runT T 39 (.f "_law_things") [((Tr.nd num ab l x r sz ht f b).turn k).d] s = .ok (.lst (Tr.nd num ab l x r sz ht f b).things.reverse) s := fun s => by
    rw [← tt]
    exact run_things hT (by rw [Tr.turn_hgt]; omega) (by
      rw [Tr.turn_cnt]
      have := Tr.cnt_hgt (Tr.nd num ab l x r sz ht f b)
      have := pow2 (a := (Tr.nd num ab l x r sz ht f b).hgt) (b := 5) (by omega)
      omega)
  have htu := run_turn (n := 37) (t := .nd num ab l x r sz ht f b) G.turned G.n.next hw rfl
  have htu2 := run_turn (n := 37) (t := (Tr.nd num ab l x r sz ht f b).turn k) G.turned G.n.next (sto_w (A := W.A) (k := k + 1) (q := q)) rfl
  rw [sto_set] at htu htu2
  have hsum : ∀ (xs : List D) (s : Sto), (∀ z ∈ xs, W.Th z) → xs.length ≤ 5000 → runT T 39 (.f "_law_sum") [.int κ, .lst xs] s = .ok (W.sum xs) s := fun xs s px hl => by
    rw [← hW] at px ⊢
    exact run_lsum G.a hS hκ.1 px hl
  have hcnt : (Tr.nd num ab l x r sz ht f b).things.length ≤ 5000 := by
    rw [Tr.things_len]
    have := Tr.cnt_hgt (Tr.nd num ab l x r sz ht f b)
    have := pow2 (a := (Tr.nd num ab l x r sz ht f b).hgt) (b := 5) (by omega)
    omega
  have thr : ∀ z ∈ (Tr.nd num ab l x r sz ht f b).things.reverse, W.Th z := fun z hz => th z (List.mem_reverse.mp hz)
  have hs1 := fun s => hsum _ s th hcnt
  have hs2 := fun s => hsum _ s thr (by rw [List.length_reverse]; exact hcnt)
  have pf := Way.sum_pl th
  have pb := Way.sum_pl thr
  have q1 : ∀ s, eqD s (.lst (Tr.nd num ab l x r sz ht f b).things) (.lst (Tr.nd num ab l x r sz ht f b).things) = some true := fun s => eqD_refl (th_pln th) (by decide)
  have q2 : ∀ s, eqD s (.lst (Tr.nd num ab l x r sz ht f b).things.reverse) (.lst (Tr.nd num ab l x r sz ht f b).things.reverse) = some true := fun s => eqD_refl (th_pln thr) (by decide)
  simp only [Tr.hgt] at gh
  cases gt with
  | nd gl gr tx z1 z2 z3 z4 z5 z6 =>
  generalize (Tr.nd num ab l x r sz ht f b).things = xs at *
  have hl : l.hgt ≤ 5 := by omega
  have hr : r.hgt ≤ 5 := by omega
  have pl : Pln 8 l.d := gl.pl.mono (by omega)
  have pr : Pln 8 r.d := gr.pl.mono (by omega)
  have px : Pln 8 x := (W.pl tx.1).mono (by omega)
  have pf8 : Pln 8 f := z5 ▸ pf.mono (by omega)
  have pb8 : Pln 8 b := z6 ▸ pb.mono (by omega)
  have q3 : ∀ s, eqD s (.tup [l.d, x, r.d, .int sz, .int ht]) (.tup [l.d, x, r.d, .int sz, .int ht]) = some true := fun s => eqD_refl (n := 9) (pln_tup (by simp [pl, pr, px])) (by decide)
  have q4 : ∀ s, eqD s (.tup [b, f]) (.tup [b, f]) = some true := fun s => eqD_refl (n := 9) (pln_tup (by simp [pf8, pb8])) (by decide)
  have q5 : ∀ s, eqD s (.tup [.bl ab, l.d, x, r.d, .int sz, .int ht, f, b]) (.tup [.bl ab, l.d, x, r.d, .int sz, .int ht, f, b]) = some true := fun s => eqD_refl (n := 9) (pln_tup (by simp [pl, pr, px, pf8, pb8])) (by decide)
  have hab : decide ((!ab) = ab) = false := by cases ab <;> rfl
  have hw2' : (stoWP W.A (k + 1) q).m 0 = some (.ins "Wood" [("adding", W.A), ("numbered", .int (k + 1))]) := sto_w
  have tde : (Tr.nd num ab l x r sz ht f b).d = .tup [.int num, .bl ab, l.d, x, r.d, .int sz, .int ht, f, b] := rfl
  have tde2 : ((Tr.nd num ab l x r sz ht f b).turn k).d = .tup [.int k, .bl !ab, l.d, x, r.d, .int sz, .int ht, b, f] := rfl
  have tde3 : (((Tr.nd num ab l x r sz ht f b).turn k).turn (k + 1)).d = .tup [.int (k + 1), .bl ab, l.d, x, r.d, .int sz, .int ht, f, b] := by
    show D.tup [_, .bl !(!ab), _, _, _, _, _, _, _] = _
    rw [Bool.not_not]
  rw [tde] at htu hg e2 e3
  rw [tde2] at htu htu2
  simp only [tde] at hth
  simp only [tde2] at hth2
  rw [tde]
  have e4 : evSs (runT T 39) (takeS 5 (dropS 2 (dropS 2 (dropS 1 d_law_2.b)))) [some (.scr ns), some (.int κ), some (.cell 0), some (.tup [.int num, .bl ab, l.d, x, r.d, .int sz, .int ht, f, b]), some (.int k), none, none, none] (stoWP W.A k q) =
      .nx [some (.scr ns), some (.int κ), some (.cell 0), some (.tup [.int num, .bl ab, l.d, x, r.d, .int sz, .int ht, f, b]), some (.int k), some (.lst xs), some (.tup [.int k, .bl !ab, l.d, x, r.d, .int sz, .int ht, b, f]), none] (stoWP W.A (k + 1) q) := by
    simp [d_law_2, takeS, dropS, hth, hw', htu, hab]
  rw [seg 5 e4]
  have e5 : evSs (runT T 39) (takeS 2 (dropS 5 (dropS 2 (dropS 2 (dropS 1 d_law_2.b))))) [some (.scr ns), some (.int κ), some (.cell 0), some (.tup [.int num, .bl ab, l.d, x, r.d, .int sz, .int ht, f, b]), some (.int k), some (.lst xs), some (.tup [.int k, .bl !ab, l.d, x, r.d, .int sz, .int ht, b, f]), none] (stoWP W.A (k + 1) q) =
      .nx [some (.scr ns), some (.int κ), some (.cell 0), some (.tup [.int num, .bl ab, l.d, x, r.d, .int sz, .int ht, f, b]), some (.int k), some (.lst xs), some (.tup [.int k, .bl !ab, l.d, x, r.d, .int sz, .int ht, b, f]), none] (stoWP W.A (k + 1) q) := by
    simp [d_law_2, takeS, dropS, hw2', hmade2, cutD, HT.sIx, q3, q4, hth2, revD, seqOf, q2, hs1, hs2, ← z5, ← z6]
  rw [seg 2 e5]
  refine ⟨stoWP W.A (k + 2) q, ?_⟩
  rw [tde3] at htu2
  have kk : k + 1 + 1 = k + 2 := by omega
  rw [kk] at htu2
  simp [d_law_2, dropS, hw2', htu2, cutD, HT.sIx, q5, hth, q1]
end MP
/-! M8: what is_right tells of right makes, parts. -/
namespace MP
open PySem
variable {T : FK → Option Def}

theorem run_whole (h : T (.f "_law_whole") = some d_whole) {n : Nat} {s : Sto} {i : Int} : runT T (n + 1) (.f "_law_whole") [.int i] s = .ok (.bl true) s := by
  rw [runT_at h]; simp [d_whole, envOf]
theorem run_iswhole (h : T (.f "is_whole") = some d_is_whole) {n : Nat} {s : Sto} {i : Int} : runT T (n + 1) (.f "is_whole") [.int i] s = .ok (.bl true) s := by
  rw [runT_at h]; simp [d_is_whole, envOf]
structure HR (T : FK → Option Def) : Prop where
  n : HN T
  whole : T (.f "is_whole") = some d_is_whole
  meas : T (.f "measures_right") = some d_measures_right
  right : T (.f "is_right") = some d_is_right
theorem run_meas {W : Way T} (R : HR T) {num : Int} {ab : Bool} {l r : Tr} {x : D} {sz ht : Int} {f b : D} (g : Good W (.nd num ab l x r sz ht f b)) {n : Nat} {s : Sto} : runT T (n + 2) (.f "measures_right") [(Tr.nd num ab l x r sz ht f b).d] s = .ok (.bl true) s := by
  cases g with
  | nd gl gr tx h1 h2 h3 h4 h5 h6 =>
  have e1 : (sz = (l.cnt : Int) + (r.cnt : Int) + 1) = True := by simp [h1]
  have e2 : (ht = 1 + max (l.hgt : Int) (r.hgt : Int)) = True := by rw [h2]; simp; omega
  have e3 : (((l.hgt : Int) - (r.hgt : Int)).natAbs : Int) < 2 := by omega
  rw [runT_at R.meas]
  simp [d_measures_right, envOf, Tr.d, gl.sz R.n.size, gr.sz R.n.size, gl.ht R.n.height, gr.ht R.n.height, e1, e2, e3]
theorem run_right {W : Way T} (R : HR T) : ∀ {t : Tr} {n : Nat} {s : Sto}, Good W t → t.cnt ≤ 9000 → t.hgt + 3 ≤ n → runT T n (.f "is_right") [t.d, W.A] s = .ok (.bl true) s
  | .nil, n, s, g, _, hn => by
    obtain ⟨n, rfl⟩ : ∃ m, n = m + 1 := ⟨n - 1, by omega⟩
    rw [runT_at R.right]
    simp [d_is_right, envOf, Tr.d]
  | .nd num ab l x r sz ht f b, n, s, g, hc, hn => by
    simp only [Tr.hgt, Tr.cnt] at hn hc
    obtain ⟨n, rfl⟩ : ∃ m, n = m + 3 := ⟨n - 3, by omega⟩
    have hm := fun s => run_meas R g (n := n) (s := s)
    have th := g.th
    cases g with
    | nd gl gr tx h1 h2 h3 h4 h5 h6 =>
    have il := fun s => run_right R (n := n + 2) (s := s) gl (by omega) (by omega)
    have ir := fun s => run_right R (n := n + 2) (s := s) gr (by omega) (by omega)
    have su := run_sums (n := n) (s := s) R.n.sums R.n.total R.n.back gl gr tx (by omega)
    have iw : ∀ i s, runT T (n + 2) (.f "is_whole") [.int i] s = .ok (.bl true) s := fun i s => run_iswhole R.whole
    rw [runT_at R.right]
    cases ab with
    | false =>
      simp only [Tr.things] at h5 h6 th
      rw [if_neg (by simp)] at h5 h6
      have q1 : eqD s f f = some true := by rw [h5]; exact eqD_refl (Way.sum_pl fun z hz => th z (by simpa using hz)) (by decide)
      have q2 : eqD s b b = some true := by rw [h6]; exact eqD_refl (Way.sum_pl fun z hz => th z (by simpa [or_comm, or_assoc, or_left_comm] using hz)) (by decide)
      rw [← h5, ← h6] at su
      simp only [Tr.d] at hm
      simp [d_is_right, envOf, Tr.d, iw, il, ir, hm, su, unpD, putAll, q1, q2]
    | true =>
      simp only [Tr.things] at h5 h6 th
      rw [if_pos trivial] at h5 h6
      rw [List.reverse_reverse] at h6
      have q1 : eqD s f f = some true := by rw [h5]; exact eqD_refl (Way.sum_pl fun z hz => th z (by simpa [or_comm, or_assoc, or_left_comm] using hz)) (by decide)
      have q2 : eqD s b b = some true := by rw [h6]; exact eqD_refl (Way.sum_pl fun z hz => th z (by simpa [or_comm, or_assoc, or_left_comm] using hz)) (by decide)
      rw [← h5, ← h6] at su
      simp only [Tr.d] at hm
      simp [d_is_right, envOf, Tr.d, iw, il, ir, hm, su, unpD, putAll, q1, q2]
theorem run_right0 {W : Way T} (R : HR T) (hA : W.A = .non) {t : Tr} {n : Nat} {s : Sto} (g : Good W t) (hc : t.cnt ≤ 9000) (hn : t.hgt + 3 ≤ n) : runT T n (.f "is_right") [t.d] s = .ok (.bl true) s := by
  have h := run_right R (s := s) g hc hn
  rw [hA] at h
  obtain ⟨n, rfl⟩ : ∃ m, n = m + 1 := ⟨n - 1, by omega⟩
  rw [runT_at R.right] at h ⊢
  exact h
/-- a make's parts -/
theorem run_parts {A : D} {k : Int} {n w : Nat} {s : Sto} (h : T (.f "parts") = some d_parts) (h2 : T (.m "Wood" "turned") = some d_Wood_turned) (h3 : T (.m "Wood" "next_number") = some d_Wood_next_number) (hs : s.m w = some (woodC A k)) {num : Int} {ab : Bool} {l r : Tr} {x : D} {sz ht : Int} {f b : D} :
    ∃ k' l' r', k ≤ k' ∧ runT T (n + 3) (.f "parts") [.cell w, (Tr.nd num ab l x r sz ht f b).d] s = .ok (.tup [l'.d, x, r'.d]) (s.set w (woodC A k')) ∧
      (ab = false → l' = l ∧ r' = r ∧ k' = k) ∧ (ab = true → l' = r.turn k ∧ r' = l.turn (if isNon r.d = true then k else k + 1)) := by
  have hs' : s.m w = some (.ins "Wood" [("adding", A), ("numbered", .int k)]) := hs
  have sid : s.set w (woodC A k) = s := by
    unfold Sto.set
    cases s with
    | mk nx m =>
      simp only [Sto.mk.injEq, true_and]
      funext j
      by_cases e : j = w
      · subst e; simp; exact hs.symm
      · simp [e]
  cases ab with
  | false =>
    refine ⟨k, l, r, Int.le_refl _, ?_, fun _ => ⟨rfl, rfl, rfl⟩, (fun z => by cases z)⟩
    rw [runT_at h, sid]
    simp [d_parts, envOf, Tr.d]
  | true =>
    have tn : ∀ (t : Tr) (k : Int) (s : Sto), s.m w = some (woodC A k) → s.set w (woodC A k) = s → runT T (n + 2) (.m "Wood" "turned") [.cell w, t.d] s = .ok (t.turn k).d (s.set w (woodC A (if isNon t.d = true then k else k + 1))) := fun t k s hs sid => by
      cases t with
      | nil => rw [show Tr.nil.d = D.non from rfl, run_turned0 h2]; rw [if_pos (by rfl), sid]; rfl
      | nd num ab l x r sz ht f b => rw [if_neg (by simp [Tr.d])]; exact run_turn h2 h3 hs rfl
    have t1 := tn r k s hs sid
    have hs2 : (s.set w (woodC A (if isNon r.d = true then k else k + 1))).m w = some (woodC A (if isNon r.d = true then k else k + 1)) := by simp
    have t2 := tn l _ _ hs2 (by simp)
    rw [set_set] at t2
    have hs2' : (s.set w (woodC A (if isNon r.d = true then k else k + 1))).m w = some (.ins "Wood" [("adding", A), ("numbered", .int (if isNon r.d = true then k else k + 1))]) := hs2
    generalize hk : (if isNon r.d = true then k else k + 1) = k2 at *
    refine ⟨if isNon l.d = true then k2 else k2 + 1, r.turn k, l.turn k2, by split at hk <;> split <;> omega, ?_, (fun z => by cases z), fun _ => ⟨rfl, rfl⟩⟩
    rw [runT_at h]
    simp [d_parts, envOf, Tr.d, hs', t1, hs2', t2]
end MP
/-! T1: what was made so far; node, turned, parts over it. -/
namespace MP
open PySem
variable {T : FK → Option Def}

/-- how many nodes were made, and which -/
structure Gh where
  k : Int
  N : Int → Option Tr
structure GhOk (g : Gh) : Prop where
  nn : 0 ≤ g.k
  dom : ∀ i u, g.N i = some u → i < g.k
def InN (N : Int → Option Tr) : Tr → Prop
  | .nil => True
  | .nd num ab l x r sz ht f b => N num = some (.nd num ab l x r sz ht f b) ∧ InN N l ∧ InN N r
/-- its nodes are of the base S, or newer than k0 -/
def Frm (k0 : Int) (S : Tr → Prop) : Tr → Prop
  | .nil => True
  | .nd num ab l x r sz ht f b => (k0 ≤ num ∨ S (.nd num ab l x r sz ht f b)) ∧ Frm k0 S l ∧ Frm k0 S r
structure Fi (W : Way T) (k0 : Int) (S : Tr → Prop) (g : Gh) (t : Tr) : Prop where
  good : Good W t
  inn : InN g.N t
  frm : Frm k0 S t
structure Stp (g g' : Gh) (c : Nat) : Prop where
  le : g.k ≤ g'.k
  cost : g'.k ≤ g.k + c
  keep : ∀ i u, g.N i = some u → g'.N i = some u
  ok : GhOk g'
theorem Stp.refl {g : Gh} (h : GhOk g) (c : Nat) : Stp g g c := ⟨Int.le_refl _, by omega, fun _ _ h => h, h⟩
theorem Stp.trans {g1 g2 g3 : Gh} {a b : Nat} (h : Stp g1 g2 a) (i : Stp g2 g3 b) : Stp g1 g3 (a + b) := ⟨Int.le_trans h.le i.le, by have := h.cost; have := i.cost; omega, fun j u e => i.keep j u (h.keep j u e), i.ok⟩
theorem Stp.mono {g1 g2 : Gh} {a b : Nat} (h : Stp g1 g2 a) (l : a ≤ b) : Stp g1 g2 b := ⟨h.le, by have := h.cost; omega, h.keep, h.ok⟩
theorem InN.mono {N N' : Int → Option Tr} (h : ∀ i u, N i = some u → N' i = some u) : ∀ {t : Tr}, InN N t → InN N' t
  | .nil, _ => trivial
  | .nd _ _ _ _ _ _ _ _ _, ⟨a, b, c⟩ => ⟨h _ _ a, InN.mono h b, InN.mono h c⟩
section
variable {W : Way T} {k0 : Int} {S : Tr → Prop} {g g' : Gh} {w : Nat} {s : Sto}
theorem Fi.mono {c : Nat} {t : Tr} (h : Fi W k0 S g t) (i : Stp g g' c) : Fi W k0 S g' t := ⟨h.good, h.inn.mono i.keep, h.frm⟩
theorem Fi.nil : Fi W k0 S g .nil := ⟨.nil, trivial, trivial⟩
def ws (W : Way T) (w : Nat) (s : Sto) (g : Gh) : Sto := s.set w (woodC W.A g.k)
@[simp] theorem ws_m : (ws W w s g).m w = some (.ins "Wood" [("adding", W.A), ("numbered", .int g.k)]) := by simp [ws]
theorem ws_w : (ws W w s g).m w = some (woodC W.A g.k) := ws_m
theorem ws_set {k : Int} (h : g'.k = k) : (ws W w s g).set w (woodC W.A k) = ws W w s g' := by simp [ws, h]
theorem ws_self (h : s.m w = some (woodC W.A g.k)) : ws W w s g = s := by
  unfold ws Sto.set
  cases s with
  | mk nx m =>
    simp only [Sto.mk.injEq, true_and]
    funext j
    by_cases e : j = w
    · subst e; simp; exact h.symm
    · simp [e]
theorem ws_ne {i : Nat} (h : i ≠ w) : (ws W w s g).m i = s.m i := set_ne h
theorem ws_nx : (ws W w s g).nx = s.nx := rfl
def Gh.put (g : Gh) (t : Tr) : Gh := ⟨g.k + 1, fun i => if i = g.k then some t else g.N i⟩
theorem put_stp (h : GhOk g) (t : Tr) : Stp g (g.put t) 1 := by
  refine ⟨by show g.k ≤ g.k + 1; omega, by show g.k + 1 ≤ g.k + 1; omega, fun i u e => ?_, by show 0 ≤ g.k + 1; have := h.nn; omega, fun i u e => ?_⟩
  · show (if i = g.k then _ else _) = _
    rw [if_neg (by have := h.dom i u e; omega)]; exact e
  · have e : (if i = g.k then some t else g.N i) = some u := e
    show i < g.k + 1
    by_cases q : i = g.k
    · omega
    · rw [if_neg q] at e
      have := h.dom i u e; omega
theorem put_self {t : Tr} : (g.put t).N g.k = some t := if_pos rfl
theorem T_node (H : HN T) (ok : GhOk g) (hk : k0 ≤ g.k) {l r : Tr} {x : D} (fl : Fi W k0 S g l) (fr : Fi W k0 S g r) (hx : W.Th x) (hc : l.cnt + r.cnt + 1 ≤ 2000) (h1 : l.hgt ≤ r.hgt + 1) (h2 : r.hgt ≤ l.hgt + 1) {n : Nat} (hn : 3 ≤ n) :
    ∃ t g', runT T n (.m "Wood" "node") [.cell w, l.d, x, r.d] (ws W w s g) = .ok t.d (ws W w s g') ∧ Stp g g' 1 ∧ Fi W k0 S g' t ∧ t.things = l.things ++ x :: r.things ∧ t.hgt = 1 + max l.hgt r.hgt := by
  obtain ⟨n, rfl⟩ : ∃ m, n = m + 3 := ⟨n - 3, by omega⟩
  have q := run_node (n := n) (k := g.k) H (ws_w (W := W) (w := w) (s := s) (g := g)) fl.good fr.good hx hc h1 h2
  have st := put_stp ok (mkNode W g.k l x r)
  rw [ws_set (g' := g.put (mkNode W g.k l x r)) (k := g.k + 1) rfl] at q
  refine ⟨mkNode W g.k l x r, _, q, st, ⟨mkNode_good fl.good fr.good hx h1 h2, ⟨put_self, (fl.mono st).inn, (fr.mono st).inn⟩, ⟨.inl hk, fl.frm, fr.frm⟩⟩, ?_, rfl⟩
  show (if false = true then _ else l.things ++ [x] ++ r.things) = _
  rw [if_neg (by simp)]; simp
theorem T_turn (H : HN T) (ht : T (.m "Wood" "turned") = some d_Wood_turned) (ok : GhOk g) (hk : k0 ≤ g.k) {t : Tr} (ft : Fi W k0 S g t) {n : Nat} (hn : 2 ≤ n) :
    ∃ t' g', runT T n (.m "Wood" "turned") [.cell w, t.d] (ws W w s g) = .ok t'.d (ws W w s g') ∧ Stp g g' 1 ∧ Fi W k0 S g' t' ∧ t'.things = t.things.reverse ∧ t'.hgt = t.hgt := by
  obtain ⟨n, rfl⟩ : ∃ m, n = m + 2 := ⟨n - 2, by omega⟩
  cases t with
  | nil => exact ⟨.nil, g, run_turned0 ht, .refl ok 1, .nil, rfl, rfl⟩
  | nd num ab l x r sz ht' f b =>
    have q := run_turn (n := n) (t := .nd num ab l x r sz ht' f b) ht H.next (ws_w (W := W) (w := w) (s := s) (g := g)) rfl
    have st := put_stp ok ((Tr.nd num ab l x r sz ht' f b).turn g.k)
    rw [ws_set (g' := g.put ((Tr.nd num ab l x r sz ht' f b).turn g.k)) (k := g.k + 1) rfl] at q
    obtain ⟨_, i2, i3⟩ := ft.inn
    obtain ⟨_, f2, f3⟩ := ft.frm
    exact ⟨_, _, q, st, ⟨ft.good.turn, ⟨put_self, i2.mono st.keep, i3.mono st.keep⟩, ⟨.inl hk, f2, f3⟩⟩, Tr.turn_things, Tr.turn_hgt⟩
structure HT1 (T : FK → Option Def) : Prop where
  n : HN T
  turned : T (.m "Wood" "turned") = some d_Wood_turned
  parts : T (.f "parts") = some d_parts
theorem T_parts (H : HT1 T) (ok : GhOk g) (hk : k0 ≤ g.k) {t : Tr} (ft : Fi W k0 S g t) (ht : 0 < t.hgt) {n : Nat} (hn : 3 ≤ n) :
    ∃ l x r g', runT T n (.f "parts") [.cell w, t.d] (ws W w s g) = .ok (.tup [l.d, x, r.d]) (ws W w s g') ∧ Stp g g' 2 ∧ Fi W k0 S g' l ∧ Fi W k0 S g' r ∧ W.Th x ∧ t.things = l.things ++ x :: r.things ∧ t.hgt = 1 + max l.hgt r.hgt ∧ l.hgt ≤ r.hgt + 1 ∧ r.hgt ≤ l.hgt + 1 := by
  obtain ⟨n, rfl⟩ : ∃ m, n = m + 3 := ⟨n - 3, by omega⟩
  cases t with
  | nil => exact absurd ht (by simp [Tr.hgt])
  | nd num ab l x r sz ht' f b =>
    obtain ⟨_, i2, i3⟩ := ft.inn
    obtain ⟨_, f2, f3⟩ := ft.frm
    cases ft.good with
    | nd gl gr tx z1 z2 z3 z4 z5 z6 =>
    cases ab with
    | false =>
      refine ⟨l, x, r, g, ?_, .refl ok 2, ⟨gl, i2, f2⟩, ⟨gr, i3, f3⟩, tx, by simp [Tr.things], rfl, z3, z4⟩
      rw [runT_at H.parts]
      simp [d_parts, envOf, Tr.d]
    | true =>
      obtain ⟨r', g1, e1, s1, fr, tr, hr⟩ := T_turn (w := w) (s := s) H.n H.turned ok hk (t := r) ⟨gr, i3, f3⟩ (n := n + 2) (by omega)
      obtain ⟨l', g2, e2, s2, fl, tl, hl⟩ := T_turn (w := w) (s := s) H.n H.turned s1.ok (Int.le_trans hk s1.le) (t := l) ((⟨gl, i2, f2⟩ : Fi W k0 S g l).mono s1) (n := n + 2) (by omega)
      refine ⟨r', x, l', g2, ?_, s1.trans s2, fr.mono s2, fl, tx, by simp [Tr.things, tr, tl], ?_, by omega, by omega⟩
      · rw [runT_at H.parts]
        simp [d_parts, envOf, Tr.d, e1, e2]
      · show 1 + max l.hgt r.hgt = _
        omega
end
end MP
/-! T2: leaning, evened, joined. -/
namespace MP
open PySem
variable {T : FK → Option Def} {W : Way T} {k0 : Int} {S : Tr → Prop} {g g' : Gh} {w : Nat} {s : Sto}

theorem cnt_app {t l r : Tr} {x : D} (h : t.things = l.things ++ x :: r.things) : t.cnt = l.cnt + r.cnt + 1 := by
  have := Tr.things_len t
  rw [h, List.length_append, List.length_cons, Tr.things_len, Tr.things_len] at this
  omega
theorem hgtR (H : HN T) {t : Tr} (ft : Good W t) {n : Nat} (hn : 1 ≤ n) : ∀ s, runT T n (.f "height") [t.d] s = .ok (.int t.hgt) s := fun s => by
  obtain ⟨n, rfl⟩ : ∃ m, n = m + 1 := ⟨n - 1, by omega⟩
  exact ft.ht H.height
theorem cntR (H : HN T) {t : Tr} (ft : Good W t) {n : Nat} (hn : 1 ≤ n) : ∀ s, runT T n (.f "size") [t.d] s = .ok (.int t.cnt) s := fun s => by
  obtain ⟨n, rfl⟩ : ∃ m, n = m + 1 := ⟨n - 1, by omega⟩
  exact ft.sz H.size
structure HT2 (T : FK → Option Def) : Prop where
  p : HT1 T
  ll : T (.f "leaning_left") = some d_leaning_left
  lr : T (.f "leaning_right") = some d_leaning_right
  ev : T (.f "evened") = some d_evened
  jo : T (.f "joined") = some d_joined
theorem T_ll (H : HT2 T) (ok : GhOk g) (hk : k0 ≤ g.k) {l r : Tr} {x : D} (fl : Fi W k0 S g l) (fr : Fi W k0 S g r) (hx : W.Th x) (hc : l.cnt + r.cnt + 1 ≤ 2000) (hh : l.hgt = r.hgt + 2) {n : Nat} (hn : 4 ≤ n) :
    ∃ t g', runT T n (.f "leaning_left") [.cell w, l.d, x, r.d] (ws W w s g) = .ok t.d (ws W w s g') ∧ Stp g g' 7 ∧ Fi W k0 S g' t ∧ t.things = l.things ++ x :: r.things ∧ l.hgt ≤ t.hgt ∧ t.hgt ≤ l.hgt + 1 := by
  obtain ⟨n, rfl⟩ : ∃ m, n = m + 1 := ⟨n - 1, by omega⟩
  obtain ⟨a, o, m, g1, e1, s1, fa, fm, to, th, h1, h2, h3⟩ := T_parts (w := w) (s := s) H.p ok hk fl (by omega) (n := n) (by omega)
  have fr1 := fr.mono s1
  have k1 := Int.le_trans hk s1.le
  have ha := hgtR H.p.n fa.good (n := n) (by omega)
  have hm := hgtR H.p.n fm.good (n := n) (by omega)
  have cl := cnt_app th
  rw [runT_at H.ll]
  by_cases c : m.hgt ≤ a.hgt
  · obtain ⟨u, g2, e2, s2, fu, tu, hu⟩ := T_node (w := w) (s := s) H.p.n s1.ok k1 fm fr1 hx (by omega) (by omega) (by omega) (n := n) (by omega)
    have cu := cnt_app tu
    obtain ⟨v, g3, e3, s3, fv, tv, hv⟩ := T_node (w := w) (s := s) H.p.n s2.ok (Int.le_trans k1 s2.le) (fa.mono s2) fu to (by omega) (by omega) (by omega) (n := n) (by omega)
    have c' : (m.hgt : Int) ≤ a.hgt := by omega
    refine ⟨v, g3, ?_, ((s1.trans s2).trans s3).mono (by decide), fv, by rw [tv, tu, th]; simp, by omega, by omega⟩
    simp [d_leaning_left, envOf, e1, unpD, putAll, ha, hm, c', e2, e3]
  · obtain ⟨b, p, q, g2, e2, s2, fb, fq, tp, th2, h4, h5, h6⟩ := T_parts (w := w) (s := s) H.p s1.ok k1 fm (by omega) (n := n) (by omega)
    have cm := cnt_app th2
    have k2 := Int.le_trans k1 s2.le
    obtain ⟨u, g3, e3, s3, fu, tu, hu⟩ := T_node (w := w) (s := s) H.p.n s2.ok k2 (fa.mono s2) fb to (by omega) (by omega) (by omega) (n := n) (by omega)
    have cu := cnt_app tu
    have k3 := Int.le_trans k2 s3.le
    obtain ⟨v, g4, e4, s4, fv, tv, hv⟩ := T_node (w := w) (s := s) H.p.n s3.ok k3 (fq.mono s3) ((fr1.mono s2).mono s3) hx (by omega) (by omega) (by omega) (n := n) (by omega)
    have cv := cnt_app tv
    obtain ⟨z, g5, e5, s5, fz, tz, hz⟩ := T_node (w := w) (s := s) H.p.n s4.ok (Int.le_trans k3 s4.le) (fu.mono s4) fv tp (by omega) (by omega) (by omega) (n := n) (by omega)
    have c' : ¬ (m.hgt : Int) ≤ a.hgt := by omega
    refine ⟨z, g5, ?_, ((((s1.trans s2).trans s3).trans s4).trans s5).mono (by decide), fz, by rw [tz, tu, tv, th, th2]; simp, by omega, by omega⟩
    simp [d_leaning_left, envOf, e1, unpD, putAll, ha, hm, c', e2, e3, e4, e5]
theorem T_lr (H : HT2 T) (ok : GhOk g) (hk : k0 ≤ g.k) {l r : Tr} {x : D} (fl : Fi W k0 S g l) (fr : Fi W k0 S g r) (hx : W.Th x) (hc : l.cnt + r.cnt + 1 ≤ 2000) (hh : r.hgt = l.hgt + 2) {n : Nat} (hn : 4 ≤ n) :
    ∃ t g', runT T n (.f "leaning_right") [.cell w, l.d, x, r.d] (ws W w s g) = .ok t.d (ws W w s g') ∧ Stp g g' 7 ∧ Fi W k0 S g' t ∧ t.things = l.things ++ x :: r.things ∧ r.hgt ≤ t.hgt ∧ t.hgt ≤ r.hgt + 1 := by
  obtain ⟨n, rfl⟩ : ∃ m, n = m + 1 := ⟨n - 1, by omega⟩
  obtain ⟨m, o, a, g1, e1, s1, fm, fa, to, th, h1, h2, h3⟩ := T_parts (w := w) (s := s) H.p ok hk fr (by omega) (n := n) (by omega)
  have fl1 := fl.mono s1
  have k1 := Int.le_trans hk s1.le
  have ha := hgtR H.p.n fa.good (n := n) (by omega)
  have hm := hgtR H.p.n fm.good (n := n) (by omega)
  have cl := cnt_app th
  rw [runT_at H.lr]
  by_cases c : m.hgt ≤ a.hgt
  · obtain ⟨u, g2, e2, s2, fu, tu, hu⟩ := T_node (w := w) (s := s) H.p.n s1.ok k1 fl1 fm hx (by omega) (by omega) (by omega) (n := n) (by omega)
    have cu := cnt_app tu
    obtain ⟨v, g3, e3, s3, fv, tv, hv⟩ := T_node (w := w) (s := s) H.p.n s2.ok (Int.le_trans k1 s2.le) fu (fa.mono s2) to (by omega) (by omega) (by omega) (n := n) (by omega)
    have c' : (m.hgt : Int) ≤ a.hgt := by omega
    refine ⟨v, g3, ?_, ((s1.trans s2).trans s3).mono (by decide), fv, by rw [tv, tu, th]; simp, by omega, by omega⟩
    simp [d_leaning_right, envOf, e1, unpD, putAll, ha, hm, c', e2, e3]
  · obtain ⟨b, p, q, g2, e2, s2, fb, fq, tp, th2, h4, h5, h6⟩ := T_parts (w := w) (s := s) H.p s1.ok k1 fm (by omega) (n := n) (by omega)
    have cm := cnt_app th2
    have k2 := Int.le_trans k1 s2.le
    obtain ⟨u, g3, e3, s3, fu, tu, hu⟩ := T_node (w := w) (s := s) H.p.n s2.ok k2 (fl1.mono s2) fb hx (by omega) (by omega) (by omega) (n := n) (by omega)
    have cu := cnt_app tu
    have k3 := Int.le_trans k2 s3.le
    obtain ⟨v, g4, e4, s4, fv, tv, hv⟩ := T_node (w := w) (s := s) H.p.n s3.ok k3 (fq.mono s3) ((fa.mono s2).mono s3) to (by omega) (by omega) (by omega) (n := n) (by omega)
    have cv := cnt_app tv
    obtain ⟨z, g5, e5, s5, fz, tz, hz⟩ := T_node (w := w) (s := s) H.p.n s4.ok (Int.le_trans k3 s4.le) (fu.mono s4) fv tp (by omega) (by omega) (by omega) (n := n) (by omega)
    have c' : ¬ (m.hgt : Int) ≤ a.hgt := by omega
    refine ⟨z, g5, ?_, ((((s1.trans s2).trans s3).trans s4).trans s5).mono (by decide), fz, by rw [tz, tu, tv, th, th2]; simp, by omega, by omega⟩
    simp [d_leaning_right, envOf, e1, unpD, putAll, ha, hm, c', e2, e3, e4, e5]
/-- heights apart by two at most -/
theorem T_ev (H : HT2 T) (ok : GhOk g) (hk : k0 ≤ g.k) {l r : Tr} {x : D} (fl : Fi W k0 S g l) (fr : Fi W k0 S g r) (hx : W.Th x) (hc : l.cnt + r.cnt + 1 ≤ 2000) (h1 : l.hgt ≤ r.hgt + 2) (h2 : r.hgt ≤ l.hgt + 2) {n : Nat} (hn : 5 ≤ n) :
    ∃ t g', runT T n (.f "evened") [.cell w, l.d, x, r.d] (ws W w s g) = .ok t.d (ws W w s g') ∧ Stp g g' 7 ∧ Fi W k0 S g' t ∧ t.things = l.things ++ x :: r.things ∧ max l.hgt r.hgt ≤ t.hgt ∧ t.hgt ≤ max l.hgt r.hgt + 1 ∧ (l.hgt ≤ r.hgt + 1 → r.hgt ≤ l.hgt + 1 → t.hgt = max l.hgt r.hgt + 1) := by
  obtain ⟨n, rfl⟩ : ∃ m, n = m + 1 := ⟨n - 1, by omega⟩
  have hl := hgtR H.p.n fl.good (n := n) (by omega)
  have hr := hgtR H.p.n fr.good (n := n) (by omega)
  rw [runT_at H.ev]
  by_cases c1 : r.hgt + 1 < l.hgt
  · obtain ⟨t, g1, e1, s1, ft, th, q1, q2⟩ := T_ll (w := w) (s := s) H ok hk fl fr hx hc (by omega) (n := n) (by omega)
    have c' : (r.hgt : Int) + 1 < l.hgt := by omega
    refine ⟨t, g1, ?_, s1, ft, th, by omega, by omega, fun a b => by omega⟩
    simp [d_evened, envOf, hl, hr, c', e1]
  · have c' : ¬ (r.hgt : Int) + 1 < l.hgt := by omega
    by_cases c2 : l.hgt + 1 < r.hgt
    · obtain ⟨t, g1, e1, s1, ft, th, q1, q2⟩ := T_lr (w := w) (s := s) H ok hk fl fr hx hc (by omega) (n := n) (by omega)
      have c3 : (l.hgt : Int) + 1 < r.hgt := by omega
      refine ⟨t, g1, ?_, s1, ft, th, by omega, by omega, fun a b => by omega⟩
      simp [d_evened, envOf, hl, hr, c', c3, e1]
    · have c3 : ¬ (l.hgt : Int) + 1 < r.hgt := by omega
      obtain ⟨t, g1, e1, s1, ft, th, q1⟩ := T_node (w := w) (s := s) H.p.n ok hk fl fr hx hc (by omega) (by omega) (n := n) (by omega)
      refine ⟨t, g1, ?_, s1.mono (by decide), ft, th, by omega, by omega, fun a b => by omega⟩
      simp [d_evened, envOf, hl, hr, c', c3, e1]
/-- heights of any kind -/
theorem T_jo (H : HT2 T) : ∀ (d : Nat) {g : Gh} {l r : Tr} {x : D} {n : Nat}, GhOk g → k0 ≤ g.k → Fi W k0 S g l → Fi W k0 S g r → W.Th x → l.cnt + r.cnt + 1 ≤ 2000 → l.hgt ≤ r.hgt + d → r.hgt ≤ l.hgt + d → d + 7 ≤ n →
    ∃ t g', runT T n (.f "joined") [.cell w, l.d, x, r.d] (ws W w s g) = .ok t.d (ws W w s g') ∧ Stp g g' (9 * (max l.hgt r.hgt - min l.hgt r.hgt) + 1) ∧ Fi W k0 S g' t ∧ t.things = l.things ++ x :: r.things ∧ max l.hgt r.hgt ≤ t.hgt ∧ t.hgt ≤ max l.hgt r.hgt + 1 ∧ (l.hgt ≤ r.hgt + 1 → r.hgt ≤ l.hgt + 1 → t.hgt = max l.hgt r.hgt + 1) := by
  intro d
  induction d with
  | zero =>
    intro g l r x n ok hk fl fr hx hc h1 h2 hn
    obtain ⟨n, rfl⟩ : ∃ m, n = m + 1 := ⟨n - 1, by omega⟩
    have hl := hgtR H.p.n fl.good (n := n) (by omega)
    have hr := hgtR H.p.n fr.good (n := n) (by omega)
    have c' : ¬ (r.hgt : Int) + 1 < l.hgt := by omega
    have c3 : ¬ (l.hgt : Int) + 1 < r.hgt := by omega
    obtain ⟨t, g1, e1, s1, ft, th, q1⟩ := T_node (w := w) (s := s) H.p.n ok hk fl fr hx hc (by omega) (by omega) (n := n) (by omega)
    refine ⟨t, g1, ?_, s1.mono (by omega), ft, th, by omega, by omega, fun a b => by omega⟩
    rw [runT_at H.jo]
    simp [d_joined, envOf, hl, hr, c', c3, e1]
  | succ d ih =>
    intro g l r x n ok hk fl fr hx hc h1 h2 hn
    obtain ⟨n, rfl⟩ : ∃ m, n = m + 1 := ⟨n - 1, by omega⟩
    have hl := hgtR H.p.n fl.good (n := n) (by omega)
    have hr := hgtR H.p.n fr.good (n := n) (by omega)
    rw [runT_at H.jo]
    by_cases c1 : r.hgt + 1 < l.hgt
    · obtain ⟨a, o, m, g1, e1, s1, fa, fm, to, th, z1, z2, z3⟩ := T_parts (w := w) (s := s) H.p ok hk fl (by omega) (n := n) (by omega)
      have cl := cnt_app th
      have k1 := Int.le_trans hk s1.le
      obtain ⟨j, g2, e2, s2, fj, tj, y1, y2, y3⟩ := ih (n := n) s1.ok k1 fm (fr.mono s1) hx (by omega) (by omega) (by omega) (by omega)
      have cj := cnt_app tj
      obtain ⟨t, g3, e3, s3, ft, tt, x1, x2, x3⟩ := T_ev (w := w) (s := s) H s2.ok (Int.le_trans k1 s2.le) (fa.mono s2) fj to (by omega) (by omega) (by omega) (n := n) (by omega)
      have c' : (r.hgt : Int) + 1 < l.hgt := by omega
      refine ⟨t, g3, ?_, ((s1.trans s2).trans s3).mono (by omega), ft, by rw [tt, tj, th]; simp, ?_, ?_, fun a b => by omega⟩
      · simp [d_joined, envOf, hl, hr, c', e1, unpD, putAll, e2, e3]
      · by_cases q : a.hgt ≤ j.hgt + 1 ∧ j.hgt ≤ a.hgt + 1
        · have := x3 q.1 q.2; omega
        · omega
      · by_cases q : a.hgt ≤ j.hgt + 1 ∧ j.hgt ≤ a.hgt + 1
        · have := x3 q.1 q.2; omega
        · omega
    · have c' : ¬ (r.hgt : Int) + 1 < l.hgt := by omega
      by_cases c2 : l.hgt + 1 < r.hgt
      · obtain ⟨m, o, a, g1, e1, s1, fm, fa, to, th, z1, z2, z3⟩ := T_parts (w := w) (s := s) H.p ok hk fr (by omega) (n := n) (by omega)
        have cl := cnt_app th
        have k1 := Int.le_trans hk s1.le
        obtain ⟨j, g2, e2, s2, fj, tj, y1, y2, y3⟩ := ih (n := n) s1.ok k1 (fl.mono s1) fm hx (by omega) (by omega) (by omega) (by omega)
        have cj := cnt_app tj
        obtain ⟨t, g3, e3, s3, ft, tt, x1, x2, x3⟩ := T_ev (w := w) (s := s) H s2.ok (Int.le_trans k1 s2.le) fj (fa.mono s2) to (by omega) (by omega) (by omega) (n := n) (by omega)
        have c3 : (l.hgt : Int) + 1 < r.hgt := by omega
        refine ⟨t, g3, ?_, ((s1.trans s2).trans s3).mono (by omega), ft, by rw [tt, tj, th]; simp, ?_, ?_, fun a b => by omega⟩
        · simp [d_joined, envOf, hl, hr, c', c3, e1, unpD, putAll, e2, e3]
        · by_cases q : j.hgt ≤ a.hgt + 1 ∧ a.hgt ≤ j.hgt + 1
          · have := x3 q.1 q.2; omega
          · omega
        · by_cases q : j.hgt ≤ a.hgt + 1 ∧ a.hgt ≤ j.hgt + 1
          · have := x3 q.1 q.2; omega
          · omega
      · have c3 : ¬ (l.hgt : Int) + 1 < r.hgt := by omega
        obtain ⟨t, g1, e1, s1, ft, th, q1⟩ := T_node (w := w) (s := s) H.p.n ok hk fl fr hx hc (by omega) (by omega) (n := n) (by omega)
        refine ⟨t, g1, ?_, s1.mono (by omega), ft, th, by omega, by omega, fun a b => by omega⟩
        simp [d_joined, envOf, hl, hr, c', c3, e1]
end MP
/-! T3: put in, taken out, swapped, laid, cut. -/
namespace MP
open PySem
variable {T : FK → Option Def} {W : Way T} {k0 : Int} {S : Tr → Prop} {w : Nat} {s : Sto}

section
variable {α : Type} {l r : List α} {o x : α} {j : Nat}
theorem take_l (h : j ≤ l.length) : (l ++ o :: r).take j = l.take j := by rw [List.take_append, Nat.sub_eq_zero_of_le h]; simp
theorem drop_l (h : j ≤ l.length) : (l ++ o :: r).drop j = l.drop j ++ o :: r := by rw [List.drop_append, Nat.sub_eq_zero_of_le h]; simp
theorem take_r (h : l.length < j) : (l ++ o :: r).take j = l ++ o :: r.take (j - l.length - 1) := by
  rw [List.take_append, List.take_of_length_le (by omega)]
  obtain ⟨i, hi⟩ : ∃ i, j - l.length = i + 1 := ⟨j - l.length - 1, by omega⟩
  rw [hi]; rfl
theorem drop_r (h : l.length < j) : (l ++ o :: r).drop j = r.drop (j - l.length - 1) := by
  rw [List.drop_append, List.drop_of_length_le (by omega)]
  obtain ⟨i, hi⟩ : ∃ i, j - l.length = i + 1 := ⟨j - l.length - 1, by omega⟩
  rw [hi]; rfl
theorem get_l (h : j < l.length) : (l ++ o :: r)[j]? = l[j]? := by rw [List.getElem?_append_left h]
theorem get_m : (l ++ o :: r)[l.length]? = some o := by rw [List.getElem?_append_right (Nat.le_refl _), Nat.sub_self]; rfl
theorem get_r (h : l.length < j) : (l ++ o :: r)[j]? = r[j - l.length - 1]? := by
  rw [List.getElem?_append_right (by omega)]
  obtain ⟨i, hi⟩ : ∃ i, j - l.length = i + 1 := ⟨j - l.length - 1, by omega⟩
  rw [hi]; rfl
end
structure HT3 (T : FK → Option Def) : Prop where
  e : HT2 T
  pu : T (.f "put_in") = some d_put_in
theorem hgt_nil {t : Tr} (h : t.hgt = 0) : t = .nil := by
  cases t with
  | nil => rfl
  | nd num ab l x r sz ht f b => simp only [Tr.hgt] at h; omega
theorem hgt_non {t : Tr} (h : 0 < t.hgt) : isNon t.d = false := by
  cases t with
  | nil => simp [Tr.hgt] at h
  | nd num ab l x r sz ht f b => rfl
theorem non_nil : isNon Tr.nil.d = true := rfl
theorem T_put_in (H : HT2 T) (hp : T (.f "put_in") = some d_put_in) : ∀ (d : Nat) {g : Gh} {t : Tr} {x : D} {j n : Nat}, t.hgt ≤ d → GhOk g → k0 ≤ g.k → Fi W k0 S g t → W.Th x → t.cnt + 1 ≤ 2000 → j ≤ t.cnt → d + 8 ≤ n →
    ∃ u g', runT T n (.f "put_in") [.cell w, t.d, .int j, x] (ws W w s g) = .ok u.d (ws W w s g') ∧ Stp g g' (9 * t.hgt + 1) ∧ Fi W k0 S g' u ∧ u.things = t.things.take j ++ x :: t.things.drop j ∧ t.hgt ≤ u.hgt ∧ u.hgt ≤ t.hgt + 1 := by
  intro d
  induction d with
  | zero =>
    intro g t x j n hd ok hk ft hx hc hj hn
    obtain rfl := hgt_nil (Nat.le_zero.mp hd)
    obtain ⟨n, rfl⟩ : ∃ m, n = m + 1 := ⟨n - 1, by omega⟩
    obtain ⟨u, g1, e1, s1, fu, tu, hu⟩ := T_node (w := w) (s := s) H.p.n ok hk (.nil (W := W)) .nil hx (by decide) (by decide) (by decide) (n := n) (by omega)
    refine ⟨u, g1, ?_, s1.mono (by decide), fu, by simp [tu, Tr.things], by simp [Tr.hgt], by rw [hu]; decide⟩
    rw [runT_at hp]
    simp only [Tr.d] at e1 ⊢
    simp [d_put_in, envOf, e1]
  | succ d ih =>
    intro g t x j n hd ok hk ft hx hc hj hn
    by_cases h0 : t.hgt = 0
    · exact ih (by omega) ok hk ft hx hc hj (by omega)
    obtain ⟨n, rfl⟩ : ∃ m, n = m + 1 := ⟨n - 1, by omega⟩
    obtain ⟨l, o, r, g1, e1, s1, fl, fr, to, th, z1, z2, z3⟩ := T_parts (w := w) (s := s) H.p ok hk ft (by omega) (n := n) (by omega)
    have ct := cnt_app th
    have k1 := Int.le_trans hk s1.le
    have hl := cntR H.p.n fl.good (n := n) (by omega)
    have tl := Tr.things_len l
    have tn := hgt_non (t := t) (by omega)
    rw [runT_at hp]
    by_cases c : j ≤ l.cnt
    · obtain ⟨u, g2, e2, s2, fu, tu, y1, y2⟩ := ih (n := n) (j := j) (by omega) s1.ok k1 fl hx (by omega) c (by omega)
      have cu : u.cnt = l.cnt + 1 := by
        have := Tr.things_len u
        rw [tu, List.length_append, List.length_cons, List.length_take, List.length_drop, tl] at this
        omega
      obtain ⟨v, g3, e3, s3, fv, tv, x1, x2, x3⟩ := T_ev (w := w) (s := s) H s2.ok (Int.le_trans k1 s2.le) fu (fr.mono s2) to (by omega) (by omega) (by omega) (n := n) (by omega)
      have c' : (j : Int) ≤ l.cnt := by omega
      refine ⟨v, g3, ?_, ((s1.trans s2).trans s3).mono (by omega), fv, ?_, ?_, ?_⟩
      · simp [d_put_in, envOf, tn, e1, unpD, putAll, hl, c', e2, e3]
      · rw [tv, tu, th, take_l (by omega), drop_l (by omega)]; simp
      · by_cases q : u.hgt ≤ r.hgt + 1 ∧ r.hgt ≤ u.hgt + 1
        · have := x3 q.1 q.2; omega
        · omega
      · by_cases q : u.hgt ≤ r.hgt + 1 ∧ r.hgt ≤ u.hgt + 1
        · have := x3 q.1 q.2; omega
        · omega
    · obtain ⟨u, g2, e2, s2, fu, tu, y1, y2⟩ := ih (n := n) (j := j - l.cnt - 1) (by omega) s1.ok k1 fr hx (by omega) (by omega) (by omega)
      have cu : u.cnt = r.cnt + 1 := by
        have := Tr.things_len u
        have tr := Tr.things_len r
        rw [tu, List.length_append, List.length_cons, List.length_take, List.length_drop, tr] at this
        omega
      obtain ⟨v, g3, e3, s3, fv, tv, x1, x2, x3⟩ := T_ev (w := w) (s := s) H s2.ok (Int.le_trans k1 s2.le) (fl.mono s2) fu to (by omega) (by omega) (by omega) (n := n) (by omega)
      have c' : ¬ (j : Int) ≤ l.cnt := by omega
      have ej : (j : Int) - l.cnt - 1 = ((j - l.cnt - 1 : Nat) : Int) := by omega
      refine ⟨v, g3, ?_, ((s1.trans s2).trans s3).mono (by omega), fv, ?_, ?_, ?_⟩
      · simp [d_put_in, envOf, tn, e1, unpD, putAll, hl, c', ej, e2, e3]
      · rw [tv, tu, th, take_r (by omega), drop_r (by omega), tl]; simp
      · by_cases q : l.hgt ≤ u.hgt + 1 ∧ u.hgt ≤ l.hgt + 1
        · have := x3 q.1 q.2; omega
        · omega
      · by_cases q : l.hgt ≤ u.hgt + 1 ∧ u.hgt ≤ l.hgt + 1
        · have := x3 q.1 q.2; omega
        · omega
theorem T_wl (H : HT2 T) (hp : T (.f "without_last") = some d_without_last) : ∀ (d : Nat) {g : Gh} {t : Tr} {n : Nat}, t.hgt ≤ d → 0 < t.hgt → GhOk g → k0 ≤ g.k → Fi W k0 S g t → t.cnt ≤ 2000 → d + 8 ≤ n →
    ∃ u x g', runT T n (.f "without_last") [.cell w, t.d] (ws W w s g) = .ok (.tup [u.d, x]) (ws W w s g') ∧ Stp g g' (9 * t.hgt) ∧ Fi W k0 S g' u ∧ W.Th x ∧ t.things = u.things ++ [x] ∧ t.hgt ≤ u.hgt + 1 ∧ u.hgt ≤ t.hgt := by
  intro d
  induction d with
  | zero => intro g t n hd h0; omega
  | succ d ih =>
    intro g t n hd h0 ok hk ft hc hn
    obtain ⟨n, rfl⟩ : ∃ m, n = m + 1 := ⟨n - 1, by omega⟩
    obtain ⟨l, o, r, g1, e1, s1, fl, fr, to, th, z1, z2, z3⟩ := T_parts (w := w) (s := s) H.p ok hk ft h0 (n := n) (by omega)
    have ct := cnt_app th
    have k1 := Int.le_trans hk s1.le
    rw [runT_at hp]
    by_cases hr : r.hgt = 0
    · obtain rfl := hgt_nil hr
      refine ⟨l, o, g1, ?_, s1.mono (by omega), fl, to, by rw [th]; simp [Tr.things], by omega, by omega⟩
      simp [d_without_last, envOf, e1, unpD, putAll, non_nil]
    · obtain ⟨u, x, g2, e2, s2, fu, tx, tu, y1, y2⟩ := ih (n := n) (by omega) (by omega) s1.ok k1 fr (by omega) (by omega)
      have cu : r.cnt = u.cnt + 1 := by
        have := Tr.things_len u
        have tr := Tr.things_len r
        rw [tu, List.length_append] at tr
        simp at tr; omega
      obtain ⟨v, g3, e3, s3, fv, tv, x1, x2, x3⟩ := T_ev (w := w) (s := s) H s2.ok (Int.le_trans k1 s2.le) (fl.mono s2) fu to (by omega) (by omega) (by omega) (n := n) (by omega)
      have rn := hgt_non (t := r) (by omega)
      refine ⟨v, x, g3, ?_, ((s1.trans s2).trans s3).mono (by omega), fv, tx, by rw [tv, th, tu]; simp, ?_, ?_⟩
      · simp [d_without_last, envOf, e1, unpD, putAll, rn, e2, e3]
      · by_cases q : l.hgt ≤ u.hgt + 1 ∧ u.hgt ≤ l.hgt + 1
        · have := x3 q.1 q.2; omega
        · omega
      · by_cases q : l.hgt ≤ u.hgt + 1 ∧ u.hgt ≤ l.hgt + 1
        · have := x3 q.1 q.2; omega
        · omega
theorem T_both (H : HT2 T) (hp : T (.f "without_last") = some d_without_last) (hb : T (.f "both") = some d_both) (d : Nat) {g : Gh} {a b : Tr} {n : Nat} (ha : a.hgt ≤ d) (hb' : b.hgt ≤ d) (ok : GhOk g) (hk : k0 ≤ g.k) (fa : Fi W k0 S g a) (fb : Fi W k0 S g b) (hc : a.cnt + b.cnt ≤ 2000) (hn : d + 10 ≤ n) :
    ∃ u g', runT T n (.f "both") [.cell w, a.d, b.d] (ws W w s g) = .ok u.d (ws W w s g') ∧ Stp g g' (9 * a.hgt + 9 * (max a.hgt b.hgt - min (a.hgt - 1) b.hgt) + 1) ∧ Fi W k0 S g' u ∧ u.things = a.things ++ b.things ∧ max (a.hgt - 1) b.hgt ≤ u.hgt ∧ u.hgt ≤ max a.hgt b.hgt + 1 ∧ (a.hgt ≤ b.hgt + 1 → b.hgt ≤ a.hgt + 1 → max a.hgt b.hgt ≤ u.hgt) := by
  obtain ⟨n, rfl⟩ : ∃ m, n = m + 1 := ⟨n - 1, by omega⟩
  rw [runT_at hb]
  by_cases h0 : a.hgt = 0
  · obtain rfl := hgt_nil h0
    refine ⟨b, g, ?_, .refl ok _, fb, by simp [Tr.things], by simp [Tr.hgt], by simp [Tr.hgt], fun _ _ => by simp [Tr.hgt]⟩
    simp [d_both, envOf, non_nil]
  · have an := hgt_non (t := a) (by omega)
    by_cases h1 : b.hgt = 0
    · obtain rfl := hgt_nil h1
      refine ⟨a, g, ?_, .refl ok _, fa, by simp [Tr.things], by omega, by omega, fun _ _ => by omega⟩
      simp [d_both, envOf, an, non_nil]
    · have bn := hgt_non (t := b) (by omega)
      obtain ⟨u, x, g1, e1, s1, fu, tx, tu, y1, y2⟩ := T_wl (w := w) (s := s) H hp d (n := n) ha (by omega) ok hk fa (by omega) (by omega)
      have cu : a.cnt = u.cnt + 1 := by
        have q := Tr.things_len u
        have tr := Tr.things_len a
        rw [tu, List.length_append] at tr
        simp at tr; omega
      obtain ⟨v, g2, e2, s2, fv, tv, x1, x2, x3⟩ := T_jo (w := w) (s := s) H d (n := n) s1.ok (Int.le_trans hk s1.le) fu (fb.mono s1) tx (by omega) (by omega) (by omega) (by omega)
      refine ⟨v, g2, ?_, (s1.trans s2).mono (by omega), fv, by rw [tv, tu]; simp, by omega, by omega, fun _ _ => ?_⟩
      · simp [d_both, envOf, an, bn, e1, unpD, putAll, e2]
      · by_cases q : u.hgt ≤ b.hgt + 1 ∧ b.hgt ≤ u.hgt + 1
        · have := x3 q.1 q.2; omega
        · omega
end MP
/-! T4: taken out, swapped, cut. -/
namespace MP
open PySem
variable {T : FK → Option Def} {W : Way T} {k0 : Int} {S : Tr → Prop} {w : Nat} {s : Sto}

theorem T_out (H : HT2 T) (hw : T (.f "without_last") = some d_without_last) (hb : T (.f "both") = some d_both) (hp : T (.f "taken_out") = some d_taken_out) : ∀ (d : Nat) {g : Gh} {t : Tr} {j n : Nat}, t.hgt ≤ d → GhOk g → k0 ≤ g.k → Fi W k0 S g t → t.cnt ≤ 2000 → j < t.cnt → d + 12 ≤ n →
    ∃ u g', runT T n (.f "taken_out") [.cell w, t.d, .int j] (ws W w s g) = .ok u.d (ws W w s g') ∧ Stp g g' (9 * t.hgt + 12) ∧ Fi W k0 S g' u ∧ u.things = t.things.take j ++ t.things.drop (j + 1) ∧ t.hgt ≤ u.hgt + 1 ∧ u.hgt ≤ t.hgt := by
  intro d
  induction d with
  | zero =>
    intro g t j n hd ok hk ft hc hj hn
    obtain rfl := hgt_nil (Nat.le_zero.mp hd)
    simp [Tr.cnt] at hj
  | succ d ih =>
    intro g t j n hd ok hk ft hc hj hn
    have h0 : 0 < t.hgt := by
      rcases Nat.eq_zero_or_pos t.hgt with h | h
      · obtain rfl := hgt_nil h; simp [Tr.cnt] at hj
      · exact h
    obtain ⟨n, rfl⟩ : ∃ m, n = m + 1 := ⟨n - 1, by omega⟩
    obtain ⟨l, o, r, g1, e1, s1, fl, fr, to, th, z1, z2, z3⟩ := T_parts (w := w) (s := s) H.p ok hk ft h0 (n := n) (by omega)
    have ct := cnt_app th
    have k1 := Int.le_trans hk s1.le
    have hl := cntR H.p.n fl.good (n := n) (by omega)
    have tl := Tr.things_len l
    have tr := Tr.things_len r
    rw [runT_at hp]
    rcases Nat.lt_trichotomy j l.cnt with c | c | c
    · obtain ⟨u, g2, e2, s2, fu, tu, y1, y2⟩ := ih (n := n) (j := j) (by omega) s1.ok k1 fl (by omega) c (by omega)
      have cu : u.cnt + 1 = l.cnt := by
        have := Tr.things_len u
        rw [tu, List.length_append, List.length_take, List.length_drop, tl] at this
        omega
      obtain ⟨v, g3, e3, s3, fv, tv, x1, x2, x3⟩ := T_ev (w := w) (s := s) H s2.ok (Int.le_trans k1 s2.le) fu (fr.mono s2) to (by omega) (by omega) (by omega) (n := n) (by omega)
      have c1 : ¬ (j : Int) = l.cnt := by omega
      have c2 : (j : Int) < l.cnt := by omega
      refine ⟨v, g3, ?_, ((s1.trans s2).trans s3).mono (by omega), fv, ?_, ?_, ?_⟩
      · simp [d_taken_out, envOf, e1, unpD, putAll, hl, c1, c2, e2, e3]
      · rw [tv, tu, th, take_l (by omega), drop_l (by omega)]; simp
      · by_cases q : u.hgt ≤ r.hgt + 1 ∧ r.hgt ≤ u.hgt + 1
        · have := x3 q.1 q.2; omega
        · omega
      · by_cases q : u.hgt ≤ r.hgt + 1 ∧ r.hgt ≤ u.hgt + 1
        · have := x3 q.1 q.2; omega
        · omega
    · obtain ⟨v, g2, e2, s2, fv, tv, x1, x2, x3⟩ := T_both (w := w) (s := s) H hw hb d (n := n) (a := l) (b := r) (by omega) (by omega) s1.ok k1 fl fr (by omega) (by omega)
      have c1 : (j : Int) = l.cnt := by omega
      have := x3 (by omega) (by omega)
      refine ⟨v, g2, ?_, (s1.trans s2).mono (by omega), fv, ?_, by omega, by omega⟩
      · simp [d_taken_out, envOf, e1, unpD, putAll, hl, c1, e2]
      · have e0 : (l.things ++ o :: r.things).take j = l.things := by rw [take_l (by omega), List.take_of_length_le (by omega)]
        rw [tv, th, e0, drop_r (by omega), show j + 1 - l.things.length - 1 = 0 by omega, List.drop_zero]
    · obtain ⟨u, g2, e2, s2, fu, tu, y1, y2⟩ := ih (n := n) (j := j - l.cnt - 1) (by omega) s1.ok k1 fr (by omega) (by omega) (by omega)
      have cu : u.cnt + 1 = r.cnt := by
        have := Tr.things_len u
        rw [tu, List.length_append, List.length_take, List.length_drop, tr] at this
        omega
      obtain ⟨v, g3, e3, s3, fv, tv, x1, x2, x3⟩ := T_ev (w := w) (s := s) H s2.ok (Int.le_trans k1 s2.le) (fl.mono s2) fu to (by omega) (by omega) (by omega) (n := n) (by omega)
      have c1 : ¬ (j : Int) = l.cnt := by omega
      have c2 : ¬ (j : Int) < l.cnt := by omega
      have ej : (j : Int) - l.cnt - 1 = ((j - l.cnt - 1 : Nat) : Int) := by omega
      refine ⟨v, g3, ?_, ((s1.trans s2).trans s3).mono (by omega), fv, ?_, ?_, ?_⟩
      · simp [d_taken_out, envOf, e1, unpD, putAll, hl, c1, c2, ej, e2, e3]
      · rw [tv, tu, th, take_r (by omega), drop_r (by omega), tl, show j + 1 - l.cnt - 1 = j - l.cnt - 1 + 1 by omega]; simp
      · by_cases q : l.hgt ≤ u.hgt + 1 ∧ u.hgt ≤ l.hgt + 1
        · have := x3 q.1 q.2; omega
        · omega
      · by_cases q : l.hgt ≤ u.hgt + 1 ∧ u.hgt ≤ l.hgt + 1
        · have := x3 q.1 q.2; omega
        · omega
theorem T_swap (H : HT1 T) (hp : T (.f "swapped_in") = some d_swapped_in) : ∀ (d : Nat) {g : Gh} {t : Tr} {x : D} {j n : Nat}, t.hgt ≤ d → GhOk g → k0 ≤ g.k → Fi W k0 S g t → W.Th x → t.cnt ≤ 2000 → j < t.cnt → d + 12 ≤ n →
    ∃ u g', runT T n (.f "swapped_in") [.cell w, t.d, .int j, x] (ws W w s g) = .ok u.d (ws W w s g') ∧ Stp g g' (3 * t.hgt) ∧ Fi W k0 S g' u ∧ u.things = t.things.take j ++ x :: t.things.drop (j + 1) ∧ u.hgt = t.hgt := by
  intro d
  induction d with
  | zero =>
    intro g t x j n hd ok hk ft hx hc hj hn
    obtain rfl := hgt_nil (Nat.le_zero.mp hd)
    simp [Tr.cnt] at hj
  | succ d ih =>
    intro g t x j n hd ok hk ft hx hc hj hn
    have h0 : 0 < t.hgt := by
      rcases Nat.eq_zero_or_pos t.hgt with h | h
      · obtain rfl := hgt_nil h; simp [Tr.cnt] at hj
      · exact h
    obtain ⟨n, rfl⟩ : ∃ m, n = m + 1 := ⟨n - 1, by omega⟩
    obtain ⟨l, o, r, g1, e1, s1, fl, fr, to, th, z1, z2, z3⟩ := T_parts (w := w) (s := s) H ok hk ft h0 (n := n) (by omega)
    have ct := cnt_app th
    have k1 := Int.le_trans hk s1.le
    have hl := cntR H.n fl.good (n := n) (by omega)
    have tl := Tr.things_len l
    have tr := Tr.things_len r
    rw [runT_at hp]
    rcases Nat.lt_trichotomy j l.cnt with c | c | c
    · obtain ⟨u, g2, e2, s2, fu, tu, y1⟩ := ih (n := n) (j := j) (by omega) s1.ok k1 fl hx (by omega) c (by omega)
      have cu : u.cnt = l.cnt := by
        have := Tr.things_len u
        rw [tu, List.length_append, List.length_cons, List.length_take, List.length_drop, tl] at this
        omega
      obtain ⟨v, g3, e3, s3, fv, tv, x1⟩ := T_node (w := w) (s := s) H.n s2.ok (Int.le_trans k1 s2.le) fu (fr.mono s2) to (by omega) (by omega) (by omega) (n := n) (by omega)
      have c1 : ¬ (j : Int) = l.cnt := by omega
      have c2 : (j : Int) < l.cnt := by omega
      refine ⟨v, g3, ?_, ((s1.trans s2).trans s3).mono (by omega), fv, ?_, by omega⟩
      · simp [d_swapped_in, envOf, e1, unpD, putAll, hl, c1, c2, e2, e3]
      · rw [tv, tu, th, take_l (by omega), drop_l (by omega)]; simp
    · obtain ⟨v, g2, e2, s2, fv, tv, x1⟩ := T_node (w := w) (s := s) H.n s1.ok k1 fl fr hx (by omega) (by omega) (by omega) (n := n) (by omega)
      have c1 : (j : Int) = l.cnt := by omega
      refine ⟨v, g2, ?_, (s1.trans s2).mono (by omega), fv, ?_, by omega⟩
      · simp [d_swapped_in, envOf, e1, unpD, putAll, hl, c1, e2]
      · have e0 : (l.things ++ o :: r.things).take j = l.things := by rw [take_l (by omega), List.take_of_length_le (by omega)]
        rw [tv, th, e0, drop_r (by omega), show j + 1 - l.things.length - 1 = 0 by omega, List.drop_zero]
    · obtain ⟨u, g2, e2, s2, fu, tu, y1⟩ := ih (n := n) (j := j - l.cnt - 1) (by omega) s1.ok k1 fr hx (by omega) (by omega) (by omega)
      have cu : u.cnt = r.cnt := by
        have := Tr.things_len u
        rw [tu, List.length_append, List.length_cons, List.length_take, List.length_drop, tr] at this
        omega
      obtain ⟨v, g3, e3, s3, fv, tv, x1⟩ := T_node (w := w) (s := s) H.n s2.ok (Int.le_trans k1 s2.le) (fl.mono s2) fu to (by omega) (by omega) (by omega) (n := n) (by omega)
      have c1 : ¬ (j : Int) = l.cnt := by omega
      have c2 : ¬ (j : Int) < l.cnt := by omega
      have ej : (j : Int) - l.cnt - 1 = ((j - l.cnt - 1 : Nat) : Int) := by omega
      refine ⟨v, g3, ?_, ((s1.trans s2).trans s3).mono (by omega), fv, ?_, by omega⟩
      · simp [d_swapped_in, envOf, e1, unpD, putAll, hl, c1, c2, ej, e2, e3]
      · rw [tv, tu, th, take_r (by omega), drop_r (by omega), tl, show j + 1 - l.cnt - 1 = j - l.cnt - 1 + 1 by omega]; simp
theorem T_cut (H : HT2 T) (hp : T (.f "cut_at") = some d_cut_at) : ∀ (d : Nat) {g : Gh} {t : Tr} {j n : Nat}, t.hgt ≤ d → GhOk g → k0 ≤ g.k → Fi W k0 S g t → t.cnt ≤ 2000 → j ≤ t.cnt → 2 * d + 12 ≤ n →
    ∃ a b g', runT T n (.f "cut_at") [.cell w, t.d, .int j] (ws W w s g) = .ok (.tup [a.d, b.d]) (ws W w s g') ∧ Stp g g' (9 * (a.hgt + b.hgt) + 12 * t.hgt) ∧ Fi W k0 S g' a ∧ Fi W k0 S g' b ∧ a.things = t.things.take j ∧ b.things = t.things.drop j ∧ a.hgt ≤ t.hgt ∧ b.hgt ≤ t.hgt := by
  intro d
  induction d with
  | zero =>
    intro g t j n hd ok hk ft hc hj hn
    obtain rfl := hgt_nil (Nat.le_zero.mp hd)
    obtain ⟨n, rfl⟩ : ∃ m, n = m + 1 := ⟨n - 1, by omega⟩
    refine ⟨.nil, .nil, g, ?_, .refl ok _, .nil, .nil, by simp [Tr.things], by simp [Tr.things], Nat.le_refl _, Nat.le_refl _⟩
    rw [runT_at hp]
    simp [d_cut_at, envOf, Tr.d]
  | succ d ih =>
    intro g t j n hd ok hk ft hc hj hn
    by_cases h0 : t.hgt = 0
    · exact ih (by omega) ok hk ft hc hj (by omega)
    obtain ⟨n, rfl⟩ : ∃ m, n = m + 1 := ⟨n - 1, by omega⟩
    obtain ⟨l, o, r, g1, e1, s1, fl, fr, to, th, z1, z2, z3⟩ := T_parts (w := w) (s := s) H.p ok hk ft (by omega) (n := n) (by omega)
    have ct := cnt_app th
    have k1 := Int.le_trans hk s1.le
    have hl := cntR H.p.n fl.good (n := n) (by omega)
    have tl := Tr.things_len l
    have tr := Tr.things_len r
    have tn := hgt_non (t := t) (by omega)
    rw [runT_at hp]
    by_cases c : j ≤ l.cnt
    · obtain ⟨a, b, g2, e2, s2, fa, fb, ta, tb, y1, y2⟩ := ih (n := n) (j := j) (by omega) s1.ok k1 fl (by omega) c (by omega)
      have cb : b.cnt ≤ l.cnt := by
        have := Tr.things_len b
        rw [tb, List.length_drop, tl] at this
        omega
      obtain ⟨v, g3, e3, s3, fv, tv, x1, x2, x3⟩ := T_jo (w := w) (s := s) H (d + 1) (n := n) s2.ok (Int.le_trans k1 s2.le) fb (fr.mono s2) to (by omega) (by omega) (by omega) (by omega)
      have c' : (j : Int) ≤ l.cnt := by omega
      refine ⟨a, v, g3, ?_, ((s1.trans s2).trans s3).mono (by omega), fa.mono s3, fv, ?_, ?_, by omega, by omega⟩
      · simp [d_cut_at, envOf, tn, e1, unpD, putAll, hl, c', e2, e3]
      · rw [ta, th, take_l (by omega)]
      · rw [tv, tb, th, drop_l (by omega)]
    · obtain ⟨a, b, g2, e2, s2, fa, fb, ta, tb, y1, y2⟩ := ih (n := n) (j := j - l.cnt - 1) (by omega) s1.ok k1 fr (by omega) (by omega) (by omega)
      have ca : a.cnt ≤ r.cnt := by
        have := Tr.things_len a
        rw [ta, List.length_take, tr] at this
        omega
      obtain ⟨v, g3, e3, s3, fv, tv, x1, x2, x3⟩ := T_jo (w := w) (s := s) H (d + 1) (n := n) s2.ok (Int.le_trans k1 s2.le) (fl.mono s2) fa to (by omega) (by omega) (by omega) (by omega)
      have c' : ¬ (j : Int) ≤ l.cnt := by omega
      have ej : (j : Int) - l.cnt - 1 = ((j - l.cnt - 1 : Nat) : Int) := by omega
      refine ⟨v, b, g3, ?_, ((s1.trans s2).trans s3).mono (by omega), fv, fb.mono s3, ?_, ?_, by omega, by omega⟩
      · simp [d_cut_at, envOf, tn, e1, unpD, putAll, hl, c', ej, e2, e3]
      · rw [tv, ta, th, take_r (by omega), tl]
      · rw [tb, th, drop_r (by omega), tl]
end MP
/-! T5: makes of lists, the asking of places, what the rows module tells. -/
namespace MP
open PySem
variable {T : FK → Option Def} {W : Way T} {k0 : Int} {S : Tr → Prop} {g : Gh} {w : Nat} {s : Sto}

/-- h is how many bits n has -/
def Bits (n h : Nat) : Prop := n < 2 ^ h ∧ (h ≠ 0 → 2 ^ (h - 1) ≤ n)
theorem bits_le {n h h' : Nat} (a : n < 2 ^ h) (b : h' ≠ 0 → 2 ^ (h' - 1) ≤ n) : h' ≤ h := by
  rcases Nat.eq_zero_or_pos h' with e | e
  · omega
  · have := b (by omega)
    have : 2 ^ (h' - 1) < 2 ^ h := by omega
    have := (Nat.pow_lt_pow_iff_right (by decide : 1 < 2)).mp this
    omega
theorem T_mb (H : HN T) (hp : T (.f "made_between") = some d_made_between) {xs : List D} (hx : ∀ z ∈ xs, W.Th z) (hl : xs.length ≤ 2000) : ∀ (h : Nat) {g : Gh} {a b n : Nat}, GhOk g → k0 ≤ g.k → a ≤ b → b ≤ xs.length → b - a < 2 ^ h → h + 5 ≤ n →
    ∃ t g', runT T n (.f "made_between") [.cell w, .lst xs, .int a, .int b] (ws W w s g) = .ok t.d (ws W w s g') ∧ Stp g g' (b - a) ∧ Fi W k0 S g' t ∧ t.things = (xs.drop a).take (b - a) ∧ Bits (b - a) t.hgt := by
  intro h
  induction h with
  | zero =>
    intro g a b n ok hk h1 h2 h3 hn
    obtain rfl : a = b := by simp at h3; omega
    obtain ⟨n, rfl⟩ : ∃ m, n = m + 1 := ⟨n - 1, by omega⟩
    refine ⟨.nil, g, ?_, .refl ok _, .nil, by simp [Tr.things], by simp [Bits, Tr.hgt]⟩
    rw [runT_at hp]
    simp [d_made_between, envOf, Tr.d]
  | succ h ih =>
    intro g a b n ok hk h1 h2 h3 hn
    by_cases e : a = b
    · subst e
      exact ih ok hk h1 h2 (by rw [Nat.sub_self]; exact Nat.pow_pos (by decide)) (by omega)
    · obtain ⟨n, rfl⟩ : ∃ m, n = m + 1 := ⟨n - 1, by omega⟩
      have p2 : 2 ^ (h + 1) = 2 * 2 ^ h := by rw [Nat.pow_succ]; omega
      obtain ⟨m, hm⟩ : ∃ m, m = (a + b) / 2 := ⟨_, rfl⟩
      obtain ⟨l, g1, e1, s1, fl, tl, bl⟩ := ih (n := n) (a := a) (b := m) ok hk (by omega) (by omega) (by omega) (by omega)
      have k1 := Int.le_trans hk s1.le
      obtain ⟨r, g2, e2, s2, fr, tr, br⟩ := ih (n := n) (a := m + 1) (b := b) s1.ok k1 (by omega) (by omega) (by omega) (by omega)
      have k2 := Int.le_trans k1 s2.le
      have cl := Tr.things_len l
      have cr := Tr.things_len r
      rw [tl, List.length_take, List.length_drop] at cl
      rw [tr, List.length_take, List.length_drop] at cr
      have hmx : m < xs.length := by omega
      have tx := hx xs[m] (List.getElem_mem hmx)
      have q1 : l.hgt ≤ r.hgt + 1 := bits_le (n := m - a) (by
        rw [Nat.pow_succ]
        have := br.1; omega) bl.2
      have q2 : r.hgt ≤ l.hgt := bits_le (n := b - (m + 1)) (by have := bl.1; omega) br.2
      obtain ⟨t, g3, e3, s3, ft, tt, ht⟩ := T_node (w := w) (s := s) H s2.ok k2 (fl.mono s2) fr tx (by omega) q1 (by omega) (n := n) (by omega)
      refine ⟨t, g3, ?_, ((s1.trans s2).trans s3).mono (by omega), ft, ?_, ?_, fun _ => ?_⟩
      · have c1 : ¬ (a : Int) = b := by omega
        have c2 : ((a : Int) + b) / 2 = (m : Int) := by omega
        have c3 : (m : Int) + 1 = ((m + 1 : Nat) : Int) := by omega
        have c4 : ∀ s, ixD (.lst xs) (.int (m : Int)) s = .ok xs[m] s := fun s => by rw [ix_lst, atI_nat, List.getElem?_eq_getElem hmx]; rfl
        rw [← c3] at e2
        rw [runT_at hp]
        simp [d_made_between, envOf, c1, c2, e1, e2, c4, e3]
      · rw [tt, tl, tr]
        have e5 : b - a = (m - a) + (1 + (b - (m + 1))) := by omega
        rw [e5, List.take_add, List.drop_drop, show a + (m - a) = m by omega, List.drop_eq_getElem_cons hmx, Nat.add_comm 1, List.take_succ_cons]
      · have := bl.1
        rw [ht, Nat.max_eq_left q2, Nat.add_comm, Nat.pow_succ]; omega
      · rw [ht, Nat.max_eq_left q2, Nat.add_comm, Nat.add_sub_cancel]
        rcases Nat.eq_zero_or_pos l.hgt with z | z
        · rw [z]; omega
        · have := bl.2 (by omega)
          obtain ⟨q, hq⟩ : ∃ q, l.hgt = q + 1 := ⟨l.hgt - 1, by omega⟩
          rw [hq] at this ⊢
          rw [Nat.pow_succ]
          simp at this; omega
theorem T_make_of (H : HN T) (hb : T (.f "made_between") = some d_made_between) (hp : T (.f "make_of") = some d_make_of) {xs : List D} (hx : ∀ z ∈ xs, W.Th z) (hl : xs.length ≤ 2000) (ok : GhOk g) (hk : k0 ≤ g.k) {n : Nat} (hn : 17 ≤ n) :
    ∃ t g', runT T n (.f "make_of") [.cell w, .lst xs] (ws W w s g) = .ok t.d (ws W w s g') ∧ Stp g g' xs.length ∧ Fi W k0 S g' t ∧ t.things = xs ∧ Bits xs.length t.hgt := by
  obtain ⟨n, rfl⟩ : ∃ m, n = m + 1 := ⟨n - 1, by omega⟩
  have p11 : 2 ^ 11 = 2048 := by decide
  obtain ⟨t, g1, e1, s1, ft, tt, bt⟩ := T_mb (w := w) (s := s) H hb hx hl 11 (n := n) (a := 0) (b := xs.length) ok hk (Nat.zero_le _) (Nat.le_refl _) (by omega) (by omega)
  refine ⟨t, g1, ?_, s1, ft, by rw [tt]; simp, bt⟩
  have c : ¬ (2000 : Int) < xs.length := by omega
  rw [runT_at hp]
  have e1' : runT T n (.f "made_between") [.cell w, .lst xs, .int 0, .int (xs.length : Int)] (ws W w s g) = .ok t.d (ws W w s g1) := e1
  simp [d_make_of, envOf, c, e1']
theorem make_of_many (hp : T (.f "make_of") = some d_make_of) {xs : List D} (hl : 2000 < xs.length) {n w : Nat} {s : Sto} : runT T (n + 1) (.f "make_of") [.cell w, .lst xs] s = .exc ⟨"TooMany", []⟩ s := by
  have c : (2000 : Int) < xs.length := by omega
  rw [runT_at hp]
  simp [d_make_of, envOf, c]
theorem ask_ok (hp : T (.f "ask_place") = some d_ask_place) {p a b : Int} (h1 : a ≤ p) (h2 : p ≤ b) {n : Nat} (hn : 1 ≤ n) (s : Sto) : runT T n (.f "ask_place") [.int p, .int a, .int b] s = .ok .non s := by
  obtain ⟨n, rfl⟩ : ∃ m, n = m + 1 := ⟨n - 1, by omega⟩
  have c1 : ¬ p < a := by omega
  have c2 : ¬ b < p := by omega
  rw [runT_at hp]
  simp [d_ask_place, envOf, c1, c2]
theorem ask_no (hp : T (.f "ask_place") = some d_ask_place) {p a b : Int} (h : p < a ∨ b < p) {n : Nat} (hn : 1 ≤ n) (s : Sto) : runT T n (.f "ask_place") [.int p, .int a, .int b] s = .exc ⟨"NoPlace", []⟩ s := by
  obtain ⟨n, rfl⟩ : ∃ m, n = m + 1 := ⟨n - 1, by omega⟩
  rw [runT_at hp]
  by_cases c1 : p < a
  · simp [d_ask_place, envOf, c1]
  · have c2 : b < p := by omega
    simp [d_ask_place, envOf, c1, c2]
theorem R_put (H : HT2 T) (ha : T (.f "ask_place") = some d_ask_place) (hi : T (.f "put_in") = some d_put_in) (hp : T (.f "put") = some d_put) {t : Tr} {x : D} {j : Nat} (ok : GhOk g) (hk : k0 ≤ g.k) (ft : Fi W k0 S g t) (hx : W.Th x) (hc : t.cnt + 1 ≤ 2000) (hj : j ≤ t.cnt) {n : Nat} (hn : t.hgt + 9 ≤ n) :
    ∃ u g', runT T n (.f "put") [.cell w, t.d, .int j, x] (ws W w s g) = .ok u.d (ws W w s g') ∧ Stp g g' (9 * t.hgt + 1) ∧ Fi W k0 S g' u ∧ u.things = t.things.take j ++ x :: t.things.drop j ∧ t.hgt ≤ u.hgt ∧ u.hgt ≤ t.hgt + 1 := by
  obtain ⟨n, rfl⟩ : ∃ m, n = m + 1 := ⟨n - 1, by omega⟩
  obtain ⟨u, g1, e1, r⟩ := T_put_in (w := w) (s := s) H hi t.hgt (n := n) (j := j) (Nat.le_refl _) ok hk ft hx hc hj (by omega)
  refine ⟨u, g1, ?_, r⟩
  have z := cntR H.p.n ft.good (n := n) (by omega)
  have a := ask_ok ha (p := j) (a := 0) (b := t.cnt) (by omega) (by omega) (n := n) (by omega)
  have c : ¬ (t.cnt : Int) = 2000 := by omega
  rw [runT_at hp]
  simp [d_put, envOf, z, a, c, e1]
theorem R_out (H : HT2 T) (ha : T (.f "ask_place") = some d_ask_place) (hw : T (.f "without_last") = some d_without_last) (hb : T (.f "both") = some d_both) (hi : T (.f "taken_out") = some d_taken_out) (hp : T (.f "out") = some d_out) {t : Tr} {j : Nat} (ok : GhOk g) (hk : k0 ≤ g.k) (ft : Fi W k0 S g t) (hc : t.cnt ≤ 2000) (hj : j < t.cnt) {n : Nat} (hn : t.hgt + 13 ≤ n) :
    ∃ u g', runT T n (.f "out") [.cell w, t.d, .int j] (ws W w s g) = .ok u.d (ws W w s g') ∧ Stp g g' (9 * t.hgt + 12) ∧ Fi W k0 S g' u ∧ u.things = t.things.take j ++ t.things.drop (j + 1) ∧ t.hgt ≤ u.hgt + 1 ∧ u.hgt ≤ t.hgt := by
  obtain ⟨n, rfl⟩ : ∃ m, n = m + 1 := ⟨n - 1, by omega⟩
  obtain ⟨u, g1, e1, r⟩ := T_out (w := w) (s := s) H hw hb hi t.hgt (n := n) (j := j) (Nat.le_refl _) ok hk ft hc hj (by omega)
  refine ⟨u, g1, ?_, r⟩
  have z := cntR H.p.n ft.good (n := n) (by omega)
  have a := ask_ok ha (p := j) (a := 0) (b := t.cnt - 1) (by omega) (by omega) (n := n) (by omega)
  rw [runT_at hp]
  simp [d_out, envOf, z, a, e1]
theorem R_swap (H : HT1 T) (ha : T (.f "ask_place") = some d_ask_place) (hi : T (.f "swapped_in") = some d_swapped_in) (hp : T (.f "swapped") = some d_swapped) {t : Tr} {x : D} {j : Nat} (ok : GhOk g) (hk : k0 ≤ g.k) (ft : Fi W k0 S g t) (hx : W.Th x) (hc : t.cnt ≤ 2000) (hj : j < t.cnt) {n : Nat} (hn : t.hgt + 13 ≤ n) :
    ∃ u g', runT T n (.f "swapped") [.cell w, t.d, .int j, x] (ws W w s g) = .ok u.d (ws W w s g') ∧ Stp g g' (3 * t.hgt) ∧ Fi W k0 S g' u ∧ u.things = t.things.take j ++ x :: t.things.drop (j + 1) ∧ u.hgt = t.hgt := by
  obtain ⟨n, rfl⟩ : ∃ m, n = m + 1 := ⟨n - 1, by omega⟩
  obtain ⟨u, g1, e1, r⟩ := T_swap (w := w) (s := s) H hi t.hgt (n := n) (j := j) (Nat.le_refl _) ok hk ft hx hc hj (by omega)
  refine ⟨u, g1, ?_, r⟩
  have z := cntR H.n ft.good (n := n) (by omega)
  have a := ask_ok ha (p := j) (a := 0) (b := t.cnt - 1) (by omega) (by omega) (n := n) (by omega)
  rw [runT_at hp]
  simp [d_swapped, envOf, z, a, e1]
theorem R_laid (H : HT2 T) (hw : T (.f "without_last") = some d_without_last) (hb : T (.f "both") = some d_both) (hp : T (.f "laid") = some d_laid) {a b : Tr} (ok : GhOk g) (hk : k0 ≤ g.k) (fa : Fi W k0 S g a) (fb : Fi W k0 S g b) (hc : a.cnt + b.cnt ≤ 2000) {n : Nat} (hn : max a.hgt b.hgt + 11 ≤ n) :
    ∃ u g', runT T n (.f "laid") [.cell w, a.d, b.d] (ws W w s g) = .ok u.d (ws W w s g') ∧ Stp g g' (9 * a.hgt + 9 * (max a.hgt b.hgt - min (a.hgt - 1) b.hgt) + 1) ∧ Fi W k0 S g' u ∧ u.things = a.things ++ b.things ∧ u.hgt ≤ max a.hgt b.hgt + 1 := by
  obtain ⟨n, rfl⟩ : ∃ m, n = m + 1 := ⟨n - 1, by omega⟩
  obtain ⟨u, g1, e1, r1, r2, r3, r4, r5, _⟩ := T_both (w := w) (s := s) H hw hb (max a.hgt b.hgt) (n := n) (by omega) (by omega) ok hk fa fb hc (by omega)
  refine ⟨u, g1, ?_, r1, r2, r3, r5⟩
  have z := cntR H.p.n fa.good (n := n) (by omega)
  have z2 := cntR H.p.n fb.good (n := n) (by omega)
  have c : ¬ (2000 : Int) < (a.cnt : Int) + b.cnt := by omega
  rw [runT_at hp]
  simp [d_laid, envOf, z, z2, c, e1]
theorem R_cut (H : HT2 T) (ha : T (.f "ask_place") = some d_ask_place) (hi : T (.f "cut_at") = some d_cut_at) (hp : T (.f "cut") = some d_cut) {t : Tr} {j : Nat} (ok : GhOk g) (hk : k0 ≤ g.k) (ft : Fi W k0 S g t) (hc : t.cnt ≤ 2000) (hj : j ≤ t.cnt) {n : Nat} (hn : 2 * t.hgt + 13 ≤ n) :
    ∃ a b g', runT T n (.f "cut") [.cell w, t.d, .int j] (ws W w s g) = .ok (.tup [a.d, b.d]) (ws W w s g') ∧ Stp g g' (9 * (a.hgt + b.hgt) + 12 * t.hgt) ∧ Fi W k0 S g' a ∧ Fi W k0 S g' b ∧ a.things = t.things.take j ∧ b.things = t.things.drop j ∧ a.hgt ≤ t.hgt ∧ b.hgt ≤ t.hgt := by
  obtain ⟨n, rfl⟩ : ∃ m, n = m + 1 := ⟨n - 1, by omega⟩
  obtain ⟨a, b, g1, e1, r⟩ := T_cut (w := w) (s := s) H hi t.hgt (n := n) (j := j) (Nat.le_refl _) ok hk ft hc hj (by omega)
  refine ⟨a, b, g1, ?_, r⟩
  have z := cntR H.p.n ft.good (n := n) (by omega)
  have q := ask_ok ha (p := j) (a := 0) (b := t.cnt) (by omega) (by omega) (n := n) (by omega)
  rw [runT_at hp]
  simp [d_cut, envOf, z, q, e1]
theorem ask_stretch (H : HN T) (ha : T (.f "ask_place") = some d_ask_place) (hp : T (.f "ask_stretch") = some d_ask_stretch) {t : Tr} (gt : Good W t) {i j : Nat} (hij : i ≤ j) (hj : j ≤ t.cnt) {n : Nat} (hn : 2 ≤ n) (s : Sto) : runT T n (.f "ask_stretch") [t.d, .int i, .int j] s = .ok .non s := by
  obtain ⟨n, rfl⟩ : ∃ m, n = m + 1 := ⟨n - 1, by omega⟩
  have z := cntR H gt (n := n) (by omega)
  have q := ask_ok ha (p := j) (a := 0) (b := t.cnt) (by omega) (by omega) (n := n) (by omega)
  have q2 := ask_ok ha (p := i) (a := 0) (b := j) (by omega) (by omega) (n := n) (by omega)
  rw [runT_at hp]
  simp [d_ask_stretch, envOf, z, q, q2]
theorem R_part (H : HT2 T) (ha : T (.f "ask_place") = some d_ask_place) (hs : T (.f "ask_stretch") = some d_ask_stretch) (hi : T (.f "cut_at") = some d_cut_at) (hp : T (.f "part") = some d_part) {t : Tr} {i j : Nat} (ok : GhOk g) (hk : k0 ≤ g.k) (ft : Fi W k0 S g t) (hc : t.cnt ≤ 2000) (hij : i ≤ j) (hj : j ≤ t.cnt) {n : Nat} (hn : 2 * t.hgt + 13 ≤ n) :
    ∃ u g' c, runT T n (.f "part") [.cell w, t.d, .int i, .int j] (ws W w s g) = .ok u.d (ws W w s g') ∧ Stp g g' c ∧ Fi W k0 S g' u ∧ u.things = (t.things.take j).drop i ∧ u.hgt ≤ t.hgt := by
  obtain ⟨n, rfl⟩ : ∃ m, n = m + 1 := ⟨n - 1, by omega⟩
  have q := ask_stretch H.p.n ha hs ft.good hij hj (n := n) (by omega)
  have tl := Tr.things_len t
  obtain ⟨a, b, g1, e1, s1, fa, fb, ta, tb, h1, h2⟩ := T_cut (w := w) (s := s) H hi t.hgt (n := n) (j := j) (Nat.le_refl _) ok hk ft hc hj (by omega)
  have ca : a.cnt = j := by have := Tr.things_len a; rw [ta, List.length_take] at this; omega
  obtain ⟨c, d, g2, e2, s2, fc, fd, tc, td, h3, h4⟩ := T_cut (w := w) (s := s) H hi t.hgt (n := n) (j := i) h1 s1.ok (Int.le_trans hk s1.le) fa (by omega) (by omega) (by omega)
  refine ⟨d, g2, _, ?_, s1.trans s2, fd, by rw [td, ta], by omega⟩
  rw [runT_at hp]
  simp [d_part, envOf, q, e1, e2]
theorem R_turn (H : HT2 T) (ha : T (.f "ask_place") = some d_ask_place) (hs : T (.f "ask_stretch") = some d_ask_stretch) (hi : T (.f "cut_at") = some d_cut_at) (hw : T (.f "without_last") = some d_without_last) (hb : T (.f "both") = some d_both) (hp : T (.f "turned_part") = some d_turned_part) {t : Tr} {i j : Nat} (ok : GhOk g) (hk : k0 ≤ g.k) (ft : Fi W k0 S g t) (hc : t.cnt ≤ 2000) (hij : i ≤ j) (hj : j ≤ t.cnt) {n : Nat} (hn : 2 * t.hgt + 14 ≤ n) :
    ∃ u g' c, runT T n (.f "turned_part") [.cell w, t.d, .int i, .int j] (ws W w s g) = .ok u.d (ws W w s g') ∧ Stp g g' c ∧ Fi W k0 S g' u ∧ u.things = t.things.take i ++ ((t.things.take j).drop i).reverse ++ t.things.drop j ∧ u.hgt ≤ t.hgt + 2 := by
  obtain ⟨n, rfl⟩ : ∃ m, n = m + 1 := ⟨n - 1, by omega⟩
  have q := ask_stretch H.p.n ha hs ft.good hij hj (n := n) (by omega)
  have tl := Tr.things_len t
  obtain ⟨a, b, g1, e1, s1, fa, fb, ta, tb, h1, h2⟩ := T_cut (w := w) (s := s) H hi t.hgt (n := n) (j := j) (Nat.le_refl _) ok hk ft hc hj (by omega)
  have ca : a.cnt = j := by have := Tr.things_len a; rw [ta, List.length_take] at this; omega
  have k1 := Int.le_trans hk s1.le
  obtain ⟨c, d, g2, e2, s2, fc, fd, tc, td, h3, h4⟩ := T_cut (w := w) (s := s) H hi t.hgt (n := n) (j := i) h1 s1.ok k1 fa (by omega) (by omega) (by omega)
  have k2 := Int.le_trans k1 s2.le
  obtain ⟨d', g3, e3, s3, fd', td', h5⟩ := T_turn (w := w) (s := s) H.p.n H.p.turned s2.ok k2 fd (n := n) (by omega)
  have k3 := Int.le_trans k2 s3.le
  have cc := Tr.things_len c
  have cd := Tr.things_len d'
  have cb := Tr.things_len b
  rw [tc, ta, List.length_take, List.length_take] at cc
  rw [td', td, ta, List.length_reverse, List.length_drop, List.length_take] at cd
  rw [tb, List.length_drop] at cb
  obtain ⟨u, g4, e4, s4, fu, tu, h6, h7, h8⟩ := T_both (w := w) (s := s) H hw hb t.hgt (n := n) (a := c) (b := d') (by omega) (by omega) s3.ok k3 (fc.mono s3) fd' (by omega) (by omega)
  have cu := Tr.things_len u
  rw [tu, List.length_append, tc, td', td, ta, List.length_reverse, List.length_take, List.length_drop, List.length_take] at cu
  obtain ⟨v, g5, e5, s5, fv, tv, h9, h10, h11⟩ := T_both (w := w) (s := s) H hw hb (t.hgt + 1) (n := n) (a := u) (b := b) (by omega) (by omega) s4.ok (Int.le_trans k3 s4.le) fu (((fb.mono s2).mono s3).mono s4) (by omega) (by omega)
  refine ⟨v, g5, _, ?_, (((s1.trans s2).trans s3).trans s4).trans s5, fv, ?_, by omega⟩
  · rw [runT_at hp]
    simp [d_turned_part, envOf, q, e1, unpD, putAll, e2, e3, e4, e5]
  · rw [tv, tu, tc, td', td, ta, tb, List.take_take, Nat.min_eq_left hij]
end MP
/-! T6: at, things_of. -/
namespace MP
open PySem
variable {T : FK → Option Def} {W : Way T} {w : Nat} {s : Sto}

/-- a make's things as they stand, or the other way round -/
def seqT (t : Tr) (f : Bool) : List D := if f then t.things.reverse else t.things
theorem seqT_nd {num : Int} {ab : Bool} {l r : Tr} {x : D} {sz ht : Int} {f b : D} {fl : Bool} : seqT (.nd num ab l x r sz ht f b) fl = (if (fl != ab) = true then seqT r true ++ x :: seqT l true else seqT l false ++ x :: seqT r false) := by
  cases fl <;> cases ab <;> simp [seqT, Tr.things]
theorem seqT_len {t : Tr} {f : Bool} : (seqT t f).length = t.cnt := by cases f <;> simp [seqT, Tr.things_len]
theorem whN_s {c : Env → Sto → Res D} {b : Env → Sto → SO} {n : Nat} {δ : Env} {s : Sto} : whN c b (n + 1) δ s = thenS (c δ s) δ fun x s1 => match x with
    | .bl true => (b δ s1).andThen (whN c b n)
    | .bl false => .nx δ s1
    | _ => .bad := rfl
theorem xorB {f ab : Bool} (h : (f != ab) = true) : (!decide (f = ab)) = true := by cases f <;> cases ab <;> first | rfl | cases h
theorem xorB' {f ab : Bool} (h : ¬ (f != ab) = true) : (!decide (f = ab)) = false := by cases f <;> cases ab <;> first | rfl | exact absurd rfl h
theorem R_at (H : HN T) (ha : T (.f "ask_place") = some d_ask_place) (hp : T (.f "at") = some d_at) {t : Tr} (gt : Good W t) {j : Nat} {x : D} (hx : t.things[j]? = some x) (hh : t.hgt ≤ 1000) {n : Nat} (hn : 2 ≤ n) (s : Sto) : runT T n (.f "at") [t.d, .int j] s = .ok x s := by
  obtain ⟨n, rfl⟩ : ∃ m, n = m + 1 := ⟨n - 1, by omega⟩
  have hj : j < t.cnt := by
    rw [← Tr.things_len]
    exact (List.getElem?_eq_some_iff.mp hx).1
  have z := cntR H gt (n := n) (by omega)
  have q := ask_ok ha (p := j) (a := 0) (b := t.cnt - 1) (by omega) (by omega) (n := n) (by omega)
  have loop : ∀ (d : Nat) {u : Tr} {i m : Nat} {f : Bool} {e3 e4 : Option D}, u.hgt ≤ d → d < m → Good W u → (seqT u f)[i]? = some x → whN (evE (runT T n) (.bl true)) (evSs (runT T n) (match dropS 2 d_at.b with | .cons (.whl _ b) _ => b | _ => .nil)) m [some u.d, some (.int i), some (.bl f), e3, e4] s = .rt x s := by
    intro d
    induction d with
    | zero =>
      intro u i m f e3 e4 hd hm gu hi
      obtain rfl := hgt_nil (Nat.le_zero.mp hd)
      cases f <;> simp [seqT, Tr.things] at hi
    | succ d ih =>
      intro u i m f e3 e4 hd hm gu hi
      obtain ⟨m, rfl⟩ : ∃ m', m = m' + 1 := ⟨m - 1, by omega⟩
      cases u with
      | nil => cases f <;> simp [seqT, Tr.things] at hi
      | nd num ab l o r sz ht f' b =>
      simp only [Tr.hgt] at hd
      cases gu with
      | nd gl gr tx z1 z2 z3 z4 z5 z6 =>
      have cl := cntR H gl (n := n) (by omega)
      have cr := cntR H gr (n := n) (by omega)
      rw [seqT_nd] at hi
      rw [whN_s]
      by_cases hf : (f != ab) = true
      · rw [if_pos hf] at hi
        have hf' := xorB hf
        rcases Nat.lt_trichotomy i r.cnt with c | c | c
        · have c1 : ¬ (i : Int) = r.cnt := by omega
          have c2 : (i : Int) < r.cnt := by omega
          rw [get_l (by rw [seqT_len]; exact c)] at hi
          have := ih (m := m) (e3 := some r.d) (e4 := some l.d) (by omega) (by omega) gr hi
          simp only [d_at, dropS] at this ⊢
          simp [Tr.d, hf', cr, c1, c2, this]
        · have c1 : (i : Int) = r.cnt := by omega
          have e : i = (seqT r true).length := by rw [seqT_len]; exact c
          rw [e, get_m] at hi
          cases hi
          simp only [d_at, dropS]
          simp [Tr.d, hf', cr, c1]
        · have c1 : ¬ (i : Int) = r.cnt := by omega
          have c2 : ¬ (i : Int) < r.cnt := by omega
          have ej : (i : Int) - r.cnt - 1 = ((i - r.cnt - 1 : Nat) : Int) := by omega
          rw [get_r (by rw [seqT_len]; exact c), seqT_len] at hi
          have := ih (m := m) (e3 := some r.d) (e4 := some l.d) (by omega) (by omega) gl hi
          simp only [d_at, dropS] at this ⊢
          simp [Tr.d, hf', cr, c1, c2, ej, this]
      · rw [if_neg hf] at hi
        have hf' := xorB' hf
        rcases Nat.lt_trichotomy i l.cnt with c | c | c
        · have c1 : ¬ (i : Int) = l.cnt := by omega
          have c2 : (i : Int) < l.cnt := by omega
          rw [get_l (by rw [seqT_len]; exact c)] at hi
          have := ih (m := m) (e3 := some l.d) (e4 := some r.d) (by omega) (by omega) gl hi
          simp only [d_at, dropS] at this ⊢
          simp [Tr.d, hf', cl, c1, c2, this]
        · have c1 : (i : Int) = l.cnt := by omega
          have e : i = (seqT l false).length := by rw [seqT_len]; exact c
          rw [e, get_m] at hi
          cases hi
          simp only [d_at, dropS]
          simp [Tr.d, hf', cl, c1]
        · have c1 : ¬ (i : Int) = l.cnt := by omega
          have c2 : ¬ (i : Int) < l.cnt := by omega
          have ej : (i : Int) - l.cnt - 1 = ((i - l.cnt - 1 : Nat) : Int) := by omega
          rw [get_r (by rw [seqT_len]; exact c), seqT_len] at hi
          have := ih (m := m) (e3 := some l.d) (e4 := some r.d) (by omega) (by omega) gr hi
          simp only [d_at, dropS] at this ⊢
          simp [Tr.d, hf', cl, c1, c2, ej, this]
  have lp := loop t.hgt (u := t) (i := j) (m := turns) (f := false) (e3 := none) (e4 := none) (Nat.le_refl _) (by show t.hgt < 1000000; omega) gt (by exact hx)
  rw [runT_at hp]
  simp only [d_at, dropS] at lp
  simp [d_at, envOf, z, q, lp]
end MP
/-! T7: things_of. -/
namespace MP
open PySem
variable {T : FK → Option Def} {W : Way T} {w : Nat} {s : Sto}

inductive Item where
  | tr (t : Tr) (f : Bool)
  | th (x : D)
def Item.d : Item → D
  | .tr t f => .tup [t.d, .bl f]
  | .th x => .tup [.lst [x], .bl false]
def Item.seq : Item → List D
  | .tr t f => seqT t f
  | .th x => [x]
def Item.wt : Item → Nat
  | .tr t _ => 3 * t.cnt + 1
  | .th _ => 1
def Item.Ok (W : Way T) : Item → Prop
  | .tr t _ => Good W t ∧ t.hgt ≤ 60
  | .th x => W.Th x
theorem Item.pln {i : Item} (h : i.Ok W) : Pln 70 i.d := by
  cases i with
  | tr t f => exact (pln_tup (n := 69) (by simp; exact h.1.pl.mono (by have := h.2; omega))).mono (by decide)
  | th x => exact (pln_tup (n := 69) (by simp; exact (pln_lst (n := 68) (by simp; exact (W.pl h.1).mono (by decide))).mono (by decide))).mono (by decide)
def wts (st : List Item) : Nat := (st.map Item.wt).sum
theorem wts_len : ∀ st : List Item, st.length ≤ wts st
  | [] => Nat.le_refl _
  | i :: st => by
    have := wts_len st
    have : 1 ≤ i.wt := by cases i <;> simp [Item.wt]
    simp [wts] at *
    omega
theorem eqD_cell {td : Nat} {xs ys : List D} (h : s.m td = some (.lst xs)) : eqD s (.cell td) (.lst ys) = eqD s (.lst xs) (.lst ys) := by
  unfold eqD; simp only [h]
@[simp] theorem kitA : L2.kitB "NoneType" "list" = some false := by decide +kernel
@[simp] theorem kitB' : L2.kitB "tuple" "list" = some false := by decide +kernel
structure Kp (s s' : Sto) (f td : Nat) : Prop where
  nx : s.nx ≤ s'.nx
  m : ∀ i, i < s.nx → i ≠ f → i ≠ td → s'.m i = s.m i
def tloop : Ss := match dropS 2 d_things_of_2.b with | .cons (.whl _ b) _ => b | _ => .nil
theorem things_loop (n : Nat) : ∀ (m : Nat) {st : List Item} {found : List D} {s : Sto} {f td : Nat} {e0 e3 e4 e5 e6 : Option D}, (∀ i ∈ st, i.Ok W) → wts st < m → m ≤ 1000000 → found.length + wts st ≤ 2000000 → s.m f = some (.lst found) → s.m td = some (.lst (st.map Item.d).reverse) → f ≠ td → f < s.nx → td < s.nx →
    ∃ s' td' a3 a4 a5 a6, whN (evE (runT T n) (.cmp .ne (.var 2) (.lst .nil))) (evSs (runT T n) tloop) m [e0, some (.cell f), some (.cell td), e3, e4, e5, e6] s = .nx [e0, some (.cell f), some (.cell td'), a3, a4, a5, a6] s' ∧ s'.m f = some (.lst (found ++ st.flatMap Item.seq)) ∧ Kp s s' f td := by
  intro m
  induction m with
  | zero => intro st found s f td e0 e3 e4 e5 e6 _ h; omega
  | succ m ih =>
    intro st found s f td e0 e3 e4 e5 e6 hok hw hm hl hf htd hne hfx htx
    rw [whN_s]
    have pl : ∀ z ∈ (st.map Item.d).reverse, Pln 70 z := fun z hz => by
      obtain ⟨i, hi, rfl⟩ := List.mem_map.mp (List.mem_reverse.mp hz)
      exact Item.pln (hok i hi)
    have q0 := (eqD_cell (ys := []) htd).trans (eqD_nil pl)
    cases st with
    | nil =>
      refine ⟨s, td, e3, e4, e5, e6, ?_, by rw [hf]; simp, ⟨Nat.le_refl _, fun _ _ _ _ => rfl⟩⟩
      simp [q0]
    | cons i st =>
      have hi := hok i (List.mem_cons_self ..)
      have hst := fun j hj => hok j (List.mem_cons_of_mem _ hj)
      have e1 : ((i :: st).map Item.d).reverse = (st.map Item.d).reverse ++ [i.d] := by simp
      rw [e1] at htd q0
      have hpop : popD (.cell td) s = .ok i.d (s.set td (.lst (st.map Item.d).reverse)) := by
        simp [popD, htd]
      have f2 : (s.set td (.lst (st.map Item.d).reverse)).m f = some (.lst found) := by rw [set_ne hne]; exact hf
      have ww : wts (i :: st) = i.wt + wts st := by simp [wts]
      rw [ww] at hw hl
      cases i with
      | th x =>
        simp only [Item.wt] at hw hl
        obtain ⟨s', td', a3, a4, a5, a6, r, r2, r3⟩ := ih (st := st) (found := found ++ [x]) (s := (s.set td (.lst (st.map Item.d).reverse)).set f (.lst (found ++ [x]))) (f := f) (td := td) (e0 := e0) (e3 := some (.lst [x])) (e4 := some (.bl false)) (e5 := e5) (e6 := e6) hst (by omega) (by omega) (by simp; omega) (by simp) (by rw [set_ne (Ne.symm hne)]; simp) hne hfx htx
        refine ⟨s', td', a3, a4, a5, a6, ?_, by rw [r2]; simp [Item.seq], ⟨r3.nx, fun j h1 h2 h3 => by rw [r3.m j h1 h2 h3, set_ne h2, set_ne h3]⟩⟩
        have fl : found.length < 16777216 := by omega
        rw [← r]
        simp [q0, tloop, d_things_of_2, dropS, hpop, unpD, putAll, Item.d, isLstC, appD, f2, fl]
      | tr t fg =>
        obtain ⟨gt, ht⟩ := hi
        cases t with
        | nil =>
          simp only [Item.wt, Tr.cnt] at hw hl
          obtain ⟨s', td', a3, a4, a5, a6, r, r2, r3⟩ := ih (st := st) (found := found) (s := s.set td (.lst (st.map Item.d).reverse)) (f := f) (td := td) (e0 := e0) (e3 := some .non) (e4 := some (.bl fg)) (e5 := e5) (e6 := e6) hst (by omega) (by omega) (by omega) f2 (by simp) hne hfx htx
          refine ⟨s', td', a3, a4, a5, a6, ?_, by rw [r2]; cases fg <;> simp [Item.seq, seqT, Tr.things], ⟨r3.nx, fun j h1 h2 h3 => by rw [r3.m j h1 h2 h3, set_ne h3]⟩⟩
          rw [← r]
          simp [q0, tloop, d_things_of_2, dropS, hpop, unpD, putAll, Item.d, Tr.d]
        | nd num ab l x r sz h' b1 b2 =>
          simp only [Item.wt, Tr.cnt] at hw hl
          simp only [Tr.hgt] at ht
          have lw := wts_len st
          cases gt with
          | nd gl gr tx z1 z2 z3 z4 z5 z6 =>
          have s2x : (s.set td (.lst (st.map Item.d).reverse)).nx = s.nx := rfl
          have stl : (st.map Item.d).reverse.length + 3 ≤ 16777216 := by simp; omega
          have stl' : st.length + 3 ≤ 16777216 := by omega
          by_cases hf' : (fg != ab) = true
          · have hb := xorB hf'
            obtain ⟨s', td', a3, a4, a5, a6, rr, r2, r3⟩ := ih (st := .tr r true :: .th x :: .tr l true :: st) (found := found) (s := (s.set td (.lst (st.map Item.d).reverse)).new (.lst ((st.map Item.d).reverse ++ [.tup [l.d, .bl true], .tup [.lst [x], .bl false], .tup [r.d, .bl true]]))) (f := f) (td := s.nx) (e0 := e0) (e3 := some (Tr.nd num ab l x r sz h' b1 b2).d) (e4 := some (.bl fg)) (e5 := some (.bl true)) (e6 := some (.lst [.tup [l.d, .bl true], .tup [.lst [x], .bl false], .tup [r.d, .bl true]]))
              (fun i hi => by
                simp only [List.mem_cons] at hi
                rcases hi with rfl | rfl | rfl | hi
                · exact ⟨gr, by omega⟩
                · exact tx
                · exact ⟨gl, by omega⟩
                · exact hst i hi) (by simp [wts, Item.wt] at *; omega) (by omega) (by simp [wts, Item.wt] at *; omega) (new_old f2 hfx) ((new_new (s := s.set td (.lst (st.map Item.d).reverse))).trans (by simp [Item.d])) (by omega) (by show f < s.nx + 1; omega) (by show s.nx < s.nx + 1; omega)
            refine ⟨s', td', a3, a4, a5, a6, ?_, by rw [r2]; simp only [List.flatMap_cons, Item.seq]; rw [seqT_nd, if_pos hf']; simp, ⟨by have := r3.nx; simp at this; omega, fun j h1 h2 h3 => by
              rw [r3.m j (by show j < s.nx + 1; omega) h2 (by omega)]
              show (if j = s.nx then _ else _) = _
              rw [if_neg (by omega), set_ne h3]⟩⟩
            rw [← rr]
            simp [q0, tloop, d_things_of_2, dropS, hpop, unpD, putAll, Item.d, Tr.d, hb, binD, lstOf, stl, stl', s2x]
          · have hb := xorB' hf'
            obtain ⟨s', td', a3, a4, a5, a6, rr, r2, r3⟩ := ih (st := .tr l false :: .th x :: .tr r false :: st) (found := found) (s := (s.set td (.lst (st.map Item.d).reverse)).new (.lst ((st.map Item.d).reverse ++ [.tup [r.d, .bl false], .tup [.lst [x], .bl false], .tup [l.d, .bl false]]))) (f := f) (td := s.nx) (e0 := e0) (e3 := some (Tr.nd num ab l x r sz h' b1 b2).d) (e4 := some (.bl fg)) (e5 := some (.bl false)) (e6 := some (.lst [.tup [r.d, .bl false], .tup [.lst [x], .bl false], .tup [l.d, .bl false]]))
              (fun i hi => by
                simp only [List.mem_cons] at hi
                rcases hi with rfl | rfl | rfl | hi
                · exact ⟨gl, by omega⟩
                · exact tx
                · exact ⟨gr, by omega⟩
                · exact hst i hi) (by simp [wts, Item.wt] at *; omega) (by omega) (by simp [wts, Item.wt] at *; omega) (new_old f2 hfx) ((new_new (s := s.set td (.lst (st.map Item.d).reverse))).trans (by simp [Item.d])) (by omega) (by show f < s.nx + 1; omega) (by show s.nx < s.nx + 1; omega)
            refine ⟨s', td', a3, a4, a5, a6, ?_, by rw [r2]; simp only [List.flatMap_cons, Item.seq]; rw [seqT_nd, if_neg hf']; simp, ⟨by have := r3.nx; simp at this; omega, fun j h1 h2 h3 => by
              rw [r3.m j (by show j < s.nx + 1; omega) h2 (by omega)]
              show (if j = s.nx then _ else _) = _
              rw [if_neg (by omega), set_ne h3]⟩⟩
            rw [← rr]
            simp [q0, tloop, d_things_of_2, dropS, hpop, unpD, putAll, Item.d, Tr.d, hb, binD, lstOf, stl, stl', s2x]
/-- the store behind: all that was there -/
structure Kep (s s' : Sto) : Prop where
  nx : s.nx ≤ s'.nx
  m : ∀ i, i < s.nx → s'.m i = s.m i
theorem Kep.refl : Kep s s := ⟨Nat.le_refl _, fun _ _ => rfl⟩
theorem Kep.trans {s1 s2 s3 : Sto} (a : Kep s1 s2) (b : Kep s2 s3) : Kep s1 s3 := ⟨Nat.le_trans a.nx b.nx, fun i h => by rw [b.m i (Nat.lt_of_lt_of_le h a.nx), a.m i h]⟩
theorem R_things (hp : T (.f "things_of") = some d_things_of_2) {t : Tr} (gt : Good W t) (hh : t.hgt ≤ 60) (hc : t.cnt ≤ 100000) {n : Nat} (hn : 1 ≤ n) (s : Sto) : ∃ s', runT T n (.f "things_of") [t.d] s = .ok (.lst t.things) s' ∧ Kep s s' := by
  obtain ⟨n, rfl⟩ : ∃ m, n = m + 1 := ⟨n - 1, by omega⟩
  have a1 : ((s.new (.lst [])).new (.lst [.tup [t.d, .bl false]])).m s.nx = some (.lst []) := new_old (new_new) (by simp)
  have a2 : ((s.new (.lst [])).new (.lst [.tup [t.d, .bl false]])).m (s.nx + 1) = some (.lst [.tup [t.d, .bl false]]) := new_new (s := s.new (.lst []))
  obtain ⟨s', td', a3, a4, a5, a6, r, r2, r3⟩ := things_loop (T := T) (W := W) n turns (st := [.tr t false]) (found := []) (s := (s.new (.lst [])).new (.lst [.tup [t.d, .bl false]])) (f := s.nx) (td := s.nx + 1) (e0 := some t.d) (e3 := none) (e4 := none) (e5 := none) (e6 := none)
    (fun i hi => by rw [List.mem_singleton.mp hi]; exact ⟨gt, hh⟩) (by simp [wts, Item.wt, turns]; omega) (by decide) (by simp [wts, Item.wt]; omega) a1 a2 (by omega) (by simp; omega) (by simp)
  refine ⟨s'.del s.nx, ?_, ⟨by have := r3.nx; simp at this; show s.nx ≤ s'.nx; omega, fun i hi => ?_⟩⟩
  · rw [runT_at hp]
    simp only [tloop, d_things_of_2, dropS] at r
    simp [d_things_of_2, envOf, r, frzD, r2, Item.seq, seqT]
  · show (if i = s.nx then none else s'.m i) = _
    rw [if_neg (by omega), r3.m i (by simp; omega) (by omega) (by omega)]
    show (if i = s.nx + 1 then _ else (if i = s.nx then _ else s.m i)) = _
    rw [if_neg (by omega), if_neg (by omega)]
end MP
/-! T8: heights are low; the law's own walk. -/
namespace MP
open PySem
variable {T : FK → Option Def} {W : Way T} {w : Nat} {s : Sto}

def low : Nat → Nat
  | 0 => 0
  | 1 => 1
  | n + 2 => low (n + 1) + low n + 1
theorem low_mono : ∀ {a b : Nat}, a ≤ b → low a ≤ low b := by
  have s : ∀ n, low n ≤ low (n + 1) := by
    intro n
    cases n with
    | zero => decide
    | succ n => show low (n + 1) ≤ low (n + 1) + low n + 1; omega
  intro a b h
  induction h with
  | refl => exact Nat.le_refl _
  | step _ ih => exact Nat.le_trans ih (s _)
theorem Good.low : ∀ {t : Tr}, Good W t → low t.hgt ≤ t.cnt
  | .nil, _ => Nat.le_refl _
  | .nd num ab l x r sz ht f b, .nd gl gr tx z1 z2 z3 z4 z5 z6 => by
    have h1 := gl.low
    have h2 := gr.low
    simp only [Tr.hgt, Tr.cnt]
    rcases Nat.lt_trichotomy l.hgt r.hgt with c | c | c
    · have e : r.hgt = l.hgt + 1 := by omega
      rw [Nat.max_eq_right (by omega), e, Nat.add_comm 1]
      rw [e] at h2
      show MP.low (l.hgt + 1) + MP.low l.hgt + 1 ≤ _
      omega
    · rw [Nat.max_eq_right (by omega), ← c]
      rw [← c] at h2
      cases e : l.hgt with
      | zero => simp [MP.low]
      | succ n =>
        rw [e] at h1 h2
        rw [Nat.add_comm 1]
        show MP.low (n + 1) + MP.low n + 1 ≤ _
        have : MP.low n ≤ MP.low (n + 1) := low_mono (Nat.le_succ n)
        omega
    · have e : l.hgt = r.hgt + 1 := by omega
      rw [Nat.max_eq_left (by omega), e, Nat.add_comm 1]
      rw [e] at h1
      show MP.low (r.hgt + 1) + MP.low r.hgt + 1 ≤ _
      omega
theorem Good.h15 {t : Tr} (g : Good W t) (h : t.cnt ≤ 2000) : t.hgt ≤ 15 := by
  have h1 := g.low
  rcases Nat.lt_or_ge t.hgt 16 with c | c
  · omega
  · have := low_mono c
    have e2 : MP.low 16 = 2583 := by decide
    omega
theorem thsW {l r : Tr} {x : D} (gl : Good W l) (gr : Good W r) (tx : W.Th x) : ∀ z ∈ l.things ++ x :: r.things, W.Th z := fun z hz => by
  rcases List.mem_append.mp hz with h | h
  · exact gl.th z h
  · rcases List.mem_cons.mp h with rfl | h
    · exact tx
    · exact gr.th z h
theorem T_walk (H : HA T) (hw : T (.f "_law_walk") = some d_walk_3) {κ : Int} (hκ : 0 ≤ κ) : ∀ {t : Tr} {n : Nat}, Good (way H κ) t → t.cnt ≤ 5000 → t.hgt ≤ 60 → t.hgt + 3 ≤ n → ∀ s, runT T n (.f "_law_walk") [t.d, .int κ] s = .ok (.lst [.int t.hgt, .lst t.things, (way H κ).sum t.things, (way H κ).sum t.things.reverse]) s
  | .nil, n, g, _, _, hn, s => by
    obtain ⟨n, rfl⟩ : ∃ m, n = m + 1 := ⟨n - 1, by omega⟩
    rw [runT_at hw]
    simp [d_walk_3, envOf, Tr.d, Tr.hgt, Tr.things, Way.sum, Way.fold]
  | .nd num ab l x r sz ht f b, n, g, hc, hh, hn, s => by
    have th := g.th
    simp only [Tr.hgt, Tr.cnt] at hn hc hh
    obtain ⟨n, rfl⟩ : ∃ m, n = m + 1 := ⟨n - 1, by omega⟩
    cases g with
    | nd gl gr tx z1 z2 z3 z4 z5 z6 =>
    have el := T_walk H hw hκ (n := n) gl (by omega) (by omega) (by omega)
    have er := T_walk H hw hκ (n := n) gr (by omega) (by omega) (by omega)
    have cl := Tr.things_len l
    have cr := Tr.things_len r
    have hA : ∀ s, runT T n (.f "_law_adding") [.int κ] s = .ok (way H κ).A s := fun s => by
      obtain ⟨n, rfl⟩ : ∃ m, n = m + 1 := ⟨n - 1, by omega⟩
      exact run_adding H hκ
    have k0 : κ = 0 → isNon (way H κ).A = true := fun h => by rw [h]; rfl
    have k1 : ¬ κ = 0 → ∃ x, (way H κ).A = .fn x := fun h => way_A H h
    generalize way H κ = W at *
    have thx := thsW gl gr tx
    have xs : (Tr.nd num ab l x r sz ht f b).things = if ab = true then (l.things ++ x :: r.things).reverse else l.things ++ x :: r.things := by simp [Tr.things]
    have na : ¬ (1 : Int) < (((l.hgt : Int) - (r.hgt : Int)).natAbs : Int) := by omega
    rw [runT_go [some (Tr.nd num ab l x r sz ht f b).d, some (.int κ), none, none, none, none, none, none] hw rfl rfl]
    have e1 : evSs (runT T n) (takeS 6 d_walk_3.b) [some (Tr.nd num ab l x r sz ht f b).d, some (.int κ), none, none, none, none, none, none] s = .nx [some (Tr.nd num ab l x r sz ht f b).d, some (.int κ), some (.lst [.int l.hgt, .lst l.things, W.sum l.things, W.sum l.things.reverse]), some (.lst [.int r.hgt, .lst r.things, W.sum r.things, W.sum r.things.reverse]), some x, some x, none, none] s := by
      simp [d_walk_3, takeS, Tr.d, el, er, na]
    rw [seg 6 e1]
    have e2 : ∃ F B, evSs (runT T n) (takeS 4 (dropS 6 d_walk_3.b)) [some (Tr.nd num ab l x r sz ht f b).d, some (.int κ), some (.lst [.int l.hgt, .lst l.things, W.sum l.things, W.sum l.things.reverse]), some (.lst [.int r.hgt, .lst r.things, W.sum r.things, W.sum r.things.reverse]), some x, some x, none, none] s =
        .nx [some (Tr.nd num ab l x r sz ht f b).d, some (.int κ), some (.lst [.int l.hgt, .lst l.things, W.sum l.things, W.sum l.things.reverse]), some (.lst [.int r.hgt, .lst r.things, W.sum r.things, W.sum r.things.reverse]), some F, some B, some (.lst (l.things ++ x :: r.things)), none] s ∧ F = W.sum (l.things ++ x :: r.things) ∧ B = W.sum (l.things ++ x :: r.things).reverse := by
      have l1 : l.things.length + 1 ≤ 16777216 := by omega
      have l2 : l.things.length + 1 + r.things.length ≤ 16777216 := by omega
      have l3 : l.things.length + (r.things.length + 1) ≤ 16777216 := by omega
      by_cases h0 : κ = 0
      · refine ⟨_, _, ?_, rfl, rfl⟩
        have e : ∀ ys, W.sum ys = .non := fun ys => by unfold Way.sum; rw [if_pos (k0 h0)]
        rw [e, e]
        simp only [e]
        simp [d_walk_3, takeS, dropS, Tr.d, h0, l1, l2, l3]
      · have hp : 0 < κ := by omega
        obtain ⟨y, hy⟩ := k1 h0
        have hnA : isNon W.A = false := by rw [hy]; rfl
        have sx := Way.sum_one (x := x) hnA
        obtain ⟨n', rfl⟩ : ∃ m, n = m + 1 := ⟨n - 1, by omega⟩
        have tl := gl.th
        have tr := gr.th
        have t1 : ∀ z ∈ [x], W.Th z := fun z hz => by rw [List.mem_singleton.mp hz]; exact tx
        have rv : ∀ {xs : List D}, (∀ z ∈ xs, W.Th z) → ∀ z ∈ xs.reverse, W.Th z := fun h z hz => h z (List.mem_reverse.mp hz)
        have ap : ∀ {xs ys : List D}, (∀ z ∈ xs, W.Th z) → (∀ z ∈ ys, W.Th z) → ∀ z ∈ xs ++ ys, W.Th z := fun h h' z hz => (List.mem_append.mp hz).elim (h z) (h' z)
        refine ⟨_, _, ?_, rfl, rfl⟩
        cases hl : isNon l.d with
        | true =>
          obtain rfl := Tr.eq_nil hl
          cases hr : isNon r.d with
          | true =>
            obtain rfl := Tr.eq_nil hr
            simp [d_walk_3, takeS, dropS, Tr.d, Tr.things, h0, hp, sx]
          | false =>
            have nr := Tr.things_ne hr
            have a1 := Way.add_run hy (n := n') (s := s) (xs := [x]) (ys := r.things) (by simp) nr t1 tr (by simp; omega)
            have a2 := Way.add_run hy (n := n') (s := s) (xs := r.things.reverse) (ys := [x]) (by simpa using nr) (by simp) (rv tr) t1 (by simp; omega)
            rw [sx] at a1 a2
            have l4 : 1 + r.things.length ≤ 16777216 := by omega
            simp [d_walk_3, takeS, dropS, Tr.d, Tr.things, h0, hp, hr, hA, hy, a1, a2, l4]
        | false =>
          have nl := Tr.things_ne hl
          have a1 := Way.add_run hy (n := n') (s := s) (xs := l.things) (ys := [x]) nl (by simp) tl t1 (by simp; omega)
          have a2 := Way.add_run hy (n := n') (s := s) (xs := [x]) (ys := l.things.reverse) (by simp) (by simpa using nl) t1 (rv tl) (by simp; omega)
          rw [sx] at a1 a2
          cases hr : isNon r.d with
          | true =>
            obtain rfl := Tr.eq_nil hr
            simp [d_walk_3, takeS, dropS, Tr.d, Tr.things, h0, hp, hl, hA, hy, a1, a2, l1]
          | false =>
            have nr := Tr.things_ne hr
            have a3 := Way.add_run hy (n := n') (s := s) (xs := l.things ++ [x]) (ys := r.things) (by simp) nr (ap tl t1) tr (by simp; omega)
            have a4 := Way.add_run hy (n := n') (s := s) (xs := r.things.reverse) (ys := [x] ++ l.things.reverse) (by simpa using nr) (by simp) (rv tr) (ap t1 (rv tl)) (by simp; omega)
            simp at a1 a2 a3 a4
            simp [d_walk_3, takeS, dropS, Tr.d, h0, hp, hl, hr, hA, hy, a1, a2, a3, a4, l1, l2, l3]
    obtain ⟨F, B, e2, hF, hB⟩ := e2
    rw [seg 4 e2]
    have len : (sz : Int) = ((l.things ++ x :: r.things).length : Nat) := by rw [z1]; simp; omega
    have hht : 1 + max (l.hgt : Int) (r.hgt : Int) = ht := by rw [z2]; omega
    have hht2 : ((Tr.nd num ab l x r sz ht f b).hgt : Int) = ht := by rw [z2]; rfl
    rw [hht2]
    have thr : ∀ z ∈ (l.things ++ x :: r.things).reverse, W.Th z := fun z hz => thx z (List.mem_reverse.mp hz)
    have pF : Pln 8 F := by rw [hF]; exact (Way.sum_pl thx).mono (by decide)
    have pB : Pln 8 B := by rw [hB]; exact (Way.sum_pl thr).mono (by decide)
    rw [xs] at z5 z6 ⊢
    cases ab with
    | false =>
      rw [if_neg (by simp)] at z5 z6 ⊢
      rw [← hF] at z5 ⊢
      rw [← hB] at z6 ⊢
      subst z5 z6
      generalize l.things ++ x :: r.things = ys at *
      have q : ∀ s, eqD s (.tup [.int sz, .int ht, f, b]) (.tup [.int sz, .int ht, f, b]) = some true := fun s => eqD_refl (n := 9) (pln_tup (by simp [pF, pB])) (by decide)
      simp [d_walk_3, dropS, Tr.d, cutD, HT.sIx, hht, ← len, q]
    | true =>
      rw [if_pos (rfl : true = true)] at z5 z6 ⊢
      rw [List.reverse_reverse, ← hF] at z6 ⊢
      rw [← hB] at z5 ⊢
      subst z5 z6
      generalize l.things ++ x :: r.things = ys at *
      have q : ∀ s, eqD s (.tup [.int sz, .int ht, f, b]) (.tup [.int sz, .int ht, f, b]) = some true := fun s => eqD_refl (n := 9) (pln_tup (by simp [pF, pB])) (by decide)
      simp [d_walk_3, dropS, Tr.d, cutD, HT.sIx, hht, revD, seqOf, ← len, q]
theorem T_is (H : HA T) (hw : T (.f "_law_walk") = some d_walk_3) (hi : T (.f "_law_is") = some d_is) {κ : Int} (hκ : 0 ≤ κ) {t : Tr} {n : Nat} (g : Good (way H κ) t) (hc : t.cnt ≤ 2000) (hn : 20 ≤ n) (s : Sto) : runT T n (.f "_law_is") [t.d, .lst t.things, .int κ] s = .ok (.bl true) s := by
  obtain ⟨n, rfl⟩ : ∃ m, n = m + 1 := ⟨n - 1, by omega⟩
  have h15 := g.h15 hc
  have e := T_walk H hw hκ (n := n) g (by omega) (by omega) (by omega)
  have q : ∀ s, eqD s (.lst t.things) (.lst t.things) = some true := fun s => eqD_refl (th_pln g.th) (by decide)
  rw [runT_at hi]
  simp [d_is, envOf, e, q]
end MP
/-! T9: lists out of a script, makes of them with stretches turned about. -/
namespace MP
open PySem
variable {T : FK → Option Def} {w : Nat} {s : Sto}

theorem cutD_mid {xs : List D} {i j : Nat} (h1 : i ≤ j) (h2 : j ≤ xs.length) : cutD xs (some (i : Int)) (some (j : Int)) = (xs.drop i).take (j - i) := by
  unfold cutD
  rw [HT.sIx_nat, HT.sIx_nat, Nat.min_eq_left h2, Nat.min_eq_left (Nat.le_trans h1 h2)]
/-- a comprehension over range(m) that makes things -/
theorem lc_range {F : Fn} {δ : Env} {s : Sto} {i : Nat} {a elt : E} {m : Nat} (hm : m ≤ 100000) (f : Nat → D) (ha : evE F a δ s = .ok (.int (m : Int)) s) (he : ∀ j, j < m → evE F elt ((δ.set i none).set i (some (.int (j : Int)))) s = .ok (f j) s) :
    evE F (.lc false i (.rng a) .none elt) δ s = .ok (.lst ((List.range m).map f)) s := by
  have q := lc_map (i := i) (elt := evE F elt) (δ := δ.set i none) (s := s) (fun d => match d with | .int j => f j.toNat | d => d) (xs := rngL (m : Int)) (acc := []) (fun x hx => by
    unfold rngL at hx
    obtain ⟨j, hj, rfl⟩ := List.mem_map.mp hx
    have hj := List.mem_range.mp hj
    simp at hj
    simpa using he j hj) (by unfold rngL; rw [List.length_map, List.length_range]; show 0 + _ ≤ 16777216; simp; omega)
  have e : (rngL (m : Int)).map (fun d => match d with | .int j => f j.toNat | d => d) = (List.range m).map f := by
    unfold rngL
    rw [List.map_map]
    rfl
  rw [e] at q
  have rg : -(2 ^ 62) ≤ (m : Int) ∧ (m : Int) < 2 ^ 62 := by omega
  rw [evE_lc, evW_rng, ha, bind_ok]
  dsimp only
  rw [if_pos rg, bind_ok, evC_none, q]
  rfl
/-- the things of a list out of the script -/
theorem thing_ex (H : HA T) {ns : List Int} (hns : ns.length ≤ 63) {k κ : Int} (h0 : 0 ≤ k) (h1 : k < 2 ^ 50) (hκ : 0 ≤ κ) (hκ4 : κ ≤ 4) : ∃ f : Nat → D, ∀ j, j < 2000 → (way H κ).Th (f j) ∧ ∀ (n : Nat) (s : Sto), runT T (n + 2) (.f "_law_thing") [.scr ns, .int (k + (j : Int)), .int κ] s = .ok (f j) s := by
  have thE : ∀ j : Nat, ∃ x, j < 2000 → (way H κ).Th x ∧ ∀ (n : Nat) (s : Sto), runT T (n + 2) (.f "_law_thing") [.scr ns, .int (k + (j : Int)), .int κ] s = .ok x s := fun j => by
    by_cases h : j < 2000
    · obtain ⟨x, h1, h2⟩ := run_thing H hns (k := k + (j : Int)) (κ := κ) (by omega) (by omega) hκ hκ4
      exact ⟨x, fun _ => ⟨h1, h2⟩⟩
    · exact ⟨.non, fun z => absurd z h⟩
  exact ⟨fun j => Classical.choose (thE j), fun j => Classical.choose_spec (thE j)⟩
theorem mxR_ok (H : HA T) {ns : List Int} (hns : ns.length ≤ 63) {k : Int} (h0 : 0 ≤ k) (h1 : k < 2 ^ 60) {n : Nat} (hn : 1 ≤ n) (s : Sto) : runT T n (.f "_law_mixed") [.scr ns, .int k] s = .ok (.int (mx ns k)) s := by
  obtain ⟨n, rfl⟩ : ∃ m, n = m + 1 := ⟨n - 1, by omega⟩
  exact run_mixed H.mixed hns h0 h1
def listB : Ss := .cons (.ret (.lc false 5 (.rng (.var 4)) .none (.call "_law_thing" (.cons (.var 0) (.cons (.bin .add (.bin .add (.var 1) (.int 2)) (.var 5)) (.cons (.var 2) .nil)))))) .nil
theorem T_listB (H : HA T) {ns : List Int} (hns : ns.length ≤ 63) {k κ : Int} (h0 : 0 ≤ k) (h1 : k < 2 ^ 40) (hκ : 0 ≤ κ) (hκ4 : κ ≤ 4) {m : Nat} (hm : m ≤ 1999) : ∃ xs, (∀ z ∈ xs, (way H κ).Th z) ∧ xs.length = m ∧ ∀ (n : Nat) (s : Sto) (e3 : Option D), evSs (runT T (n + 2)) listB [some (.scr ns), some (.int k), some (.int κ), e3, some (.int (m : Int)), none] s = .rt (.lst xs) s := by
  obtain ⟨f, hf⟩ := thing_ex H hns (k := k + 2) (κ := κ) (by omega) (by omega) hκ hκ4
  refine ⟨(List.range m).map f, fun z hz => ?_, by simp, fun n s e3 => ?_⟩
  · obtain ⟨j, hj, rfl⟩ := List.mem_map.mp hz
    exact (hf j (by have := List.mem_range.mp hj; omega)).1
  · unfold listB
    rw [evSs_cons, evS_ret, lc_range (m := m) (by omega) f (by simp) (fun j hj => ?_)]
    · rfl
    · have r := (hf j (by omega)).2 n s
      simp only [setE_s, setE_0, evE_call, evEs_cons, evEs_nil, evE_var, evE_bin, evE_int, getV_s, getV_0, bind_ok, bin_add, r]
theorem T_list (H : HA T) (hL : T (.f "_law_list") = some d_list) {ns : List Int} (hns : ns.length ≤ 63) {k κ : Int} {b : Bool} (h0 : 0 ≤ k) (h1 : k < 2 ^ 40) (hκ : 0 ≤ κ) (hκ4 : κ ≤ 4) : ∃ xs, (∀ z ∈ xs, (way H κ).Th z) ∧ xs.length ≤ 1100 ∧ (b = false → xs.length ≤ 23) ∧ ∀ (n : Nat) (s : Sto), 3 ≤ n → runT T n (.f "_law_list") [.scr ns, .int k, .int κ, .bl b] s = .ok (.lst xs) s := by
  have i1 := emod_in (v := mx ns k) (m := 24) (by decide)
  have i2 := emod_in (v := mx ns (k + 1)) (m := 200) (by decide)
  by_cases c : b = true ∧ mx ns k / 24 % 8 = 3
  · obtain ⟨rfl, c⟩ := c
    obtain ⟨xs, a1, a2, a3⟩ := T_listB H hns h0 h1 hκ hκ4 (m := (900 + mx ns (k + 1) % 200).toNat) (by omega)
    refine ⟨xs, a1, by omega, (fun z => by cases z), fun n s hn => ?_⟩
    obtain ⟨n, rfl⟩ : ∃ m, n = m + 3 := ⟨n - 3, by omega⟩
    have e1 := mxR_ok H hns (k := k) h0 (by omega) (n := n + 2) (by omega)
    have e2 := mxR_ok H hns (k := k + 1) (by omega) (by omega) (n := n + 2) (by omega)
    rw [runT_go [some (.scr ns), some (.int k), some (.int κ), some (.bl true), none, none] hL rfl rfl]
    have e : evSs (runT T (n + 2)) (takeS 2 d_list.b) [some (.scr ns), some (.int k), some (.int κ), some (.bl true), none, none] s = .nx [some (.scr ns), some (.int k), some (.int κ), some (.bl true), some (.int (((900 + mx ns (k + 1) % 200).toNat : Nat) : Int)), none] s := by
      have : (((900 + mx ns (k + 1) % 200).toNat : Nat) : Int) = 900 + mx ns (k + 1) % 200 := by omega
      rw [this]
      simp [d_list, takeS, e1, c, e2]
    rw [seg 2 e, show dropS 2 d_list.b = listB from rfl, a3]
    rfl
  · obtain ⟨xs, a1, a2, a3⟩ := T_listB H hns h0 h1 hκ hκ4 (m := (mx ns k % 24).toNat) (by omega)
    refine ⟨xs, a1, by omega, fun _ => by omega, fun n s hn => ?_⟩
    obtain ⟨n, rfl⟩ : ∃ m, n = m + 3 := ⟨n - 3, by omega⟩
    have e1 := mxR_ok H hns (k := k) h0 (by omega) (n := n + 2) (by omega)
    rw [runT_go [some (.scr ns), some (.int k), some (.int κ), some (.bl b), none, none] hL rfl rfl]
    have e : evSs (runT T (n + 2)) (takeS 2 d_list.b) [some (.scr ns), some (.int k), some (.int κ), some (.bl b), none, none] s = .nx [some (.scr ns), some (.int k), some (.int κ), some (.bl b), some (.int (((mx ns k % 24).toNat : Nat) : Int)), none] s := by
      have : (((mx ns k % 24).toNat : Nat) : Int) = mx ns k % 24 := by omega
      rw [this]
      cases b with
      | false => simp [d_list, takeS, e1]
      | true =>
        have c' : ¬ mx ns k / 24 % 8 = 3 := fun h => c ⟨rfl, h⟩
        simp [d_list, takeS, e1, c']
    rw [seg 2 e, show dropS 2 d_list.b = listB from rfl, a3]
    rfl
theorem T_list2 (H : HA T) (hL : T (.f "_law_list") = some d_list_2) {ns : List Int} (hns : ns.length ≤ 63) {k κ : Int} {b : Bool} (h0 : 0 ≤ k) (h1 : k < 2 ^ 40) (hκ : 0 ≤ κ) (hκ4 : κ ≤ 4) : ∃ xs, (∀ z ∈ xs, (way H κ).Th z) ∧ xs.length ≤ 650 ∧ (b = false → xs.length ≤ 23) ∧ ∀ (n : Nat) (s : Sto), 3 ≤ n → runT T n (.f "_law_list") [.scr ns, .int k, .int κ, .bl b] s = .ok (.lst xs) s := by
  have i1 := emod_in (v := mx ns k) (m := 24) (by decide)
  have i2 := emod_in (v := mx ns (k + 1)) (m := 200) (by decide)
  by_cases c : b = true ∧ mx ns k / 24 % 8 = 3
  · obtain ⟨rfl, c⟩ := c
    obtain ⟨xs, a1, a2, a3⟩ := T_listB H hns h0 h1 hκ hκ4 (m := (450 + mx ns (k + 1) % 200).toNat) (by omega)
    refine ⟨xs, a1, by omega, (fun z => by cases z), fun n s hn => ?_⟩
    obtain ⟨n, rfl⟩ : ∃ m, n = m + 3 := ⟨n - 3, by omega⟩
    have e1 := mxR_ok H hns (k := k) h0 (by omega) (n := n + 2) (by omega)
    have e2 := mxR_ok H hns (k := k + 1) (by omega) (by omega) (n := n + 2) (by omega)
    rw [runT_go [some (.scr ns), some (.int k), some (.int κ), some (.bl true), none, none] hL rfl rfl]
    have e : evSs (runT T (n + 2)) (takeS 2 d_list_2.b) [some (.scr ns), some (.int k), some (.int κ), some (.bl true), none, none] s = .nx [some (.scr ns), some (.int k), some (.int κ), some (.bl true), some (.int (((450 + mx ns (k + 1) % 200).toNat : Nat) : Int)), none] s := by
      have : (((450 + mx ns (k + 1) % 200).toNat : Nat) : Int) = 450 + mx ns (k + 1) % 200 := by omega
      rw [this]
      simp [d_list_2, takeS, e1, c, e2]
    rw [seg 2 e, show dropS 2 d_list_2.b = listB from rfl, a3]
    rfl
  · obtain ⟨xs, a1, a2, a3⟩ := T_listB H hns h0 h1 hκ hκ4 (m := (mx ns k % 24).toNat) (by omega)
    refine ⟨xs, a1, by omega, fun _ => by omega, fun n s hn => ?_⟩
    obtain ⟨n, rfl⟩ : ∃ m, n = m + 3 := ⟨n - 3, by omega⟩
    have e1 := mxR_ok H hns (k := k) h0 (by omega) (n := n + 2) (by omega)
    rw [runT_go [some (.scr ns), some (.int k), some (.int κ), some (.bl b), none, none] hL rfl rfl]
    have e : evSs (runT T (n + 2)) (takeS 2 d_list_2.b) [some (.scr ns), some (.int k), some (.int κ), some (.bl b), none, none] s = .nx [some (.scr ns), some (.int k), some (.int κ), some (.bl b), some (.int (((mx ns k % 24).toNat : Nat) : Int)), none] s := by
      have : (((mx ns k % 24).toNat : Nat) : Int) = mx ns k % 24 := by omega
      rw [this]
      cases b with
      | false => simp [d_list_2, takeS, e1]
      | true =>
        have c' : ¬ mx ns k / 24 % 8 = 3 := fun h => c ⟨rfl, h⟩
        simp [d_list_2, takeS, e1, c']
    rw [seg 2 e, show dropS 2 d_list_2.b = listB from rfl, a3]
    rfl
/-- what turned_part and makes of lists need -/
structure HB (T : FK → Option Def) : Prop where
  e : HT2 T
  a : HA T
  ask : T (.f "ask_place") = some d_ask_place
  stretch : T (.f "ask_stretch") = some d_ask_stretch
  cutat : T (.f "cut_at") = some d_cut_at
  wl : T (.f "without_last") = some d_without_last
  both : T (.f "both") = some d_both
  tp : T (.f "turned_part") = some d_turned_part
  mb : T (.f "made_between") = some d_made_between
  mo : T (.f "make_of") = some d_make_of
theorem B_turn (B : HB T) {W : Way T} {k0 : Int} {S : Tr → Prop} {g : Gh} {t : Tr} {i j : Nat} (ok : GhOk g) (hk : k0 ≤ g.k) (ft : Fi W k0 S g t) (hc : t.cnt ≤ 2000) (hij : i ≤ j) (hj : j ≤ t.cnt) {n : Nat} (hn : 44 ≤ n) :
    ∃ u g' c, runT T n (.f "turned_part") [.cell w, t.d, .int i, .int j] (ws W w s g) = .ok u.d (ws W w s g') ∧ Stp g g' c ∧ Fi W k0 S g' u ∧ u.things = t.things.take i ++ ((t.things.drop i).take (j - i)).reverse ++ t.things.drop j := by
  have h15 := ft.good.h15 hc
  obtain ⟨u, g', c, a1, a2, a3, a4, _⟩ := R_turn (w := w) (s := s) B.e B.ask B.stretch B.cutat B.wl B.both B.tp ok hk ft hc hij hj (n := n) (by omega)
  exact ⟨u, g', c, a1, a2, a3, by rw [a4, List.drop_take]⟩
def baseL : Ss := match dropS 2 d_base.b with | .cons (.for1 _ _ b) _ => b | _ => .nil
theorem T_base (B : HB T) (hp : T (.f "_law_base") = some d_base) {ns : List Int} (hns : ns.length ≤ 63) {W : Way T} {k0 : Int} {S : Tr → Prop} {g : Gh} {k : Int} (h0 : 0 ≤ k) (h1 : k < 2 ^ 50) {xs : List D} (hx : ∀ z ∈ xs, W.Th z) (hl : xs.length ≤ 2000) (ok : GhOk g) (hk : k0 ≤ g.k) {n : Nat} (hn : 45 ≤ n) :
    ∃ u ys g' c, runT T n (.f "_law_base") [.cell w, .scr ns, .int k, .lst xs] (ws W w s g) = .ok (.lst [u.d, .lst ys]) (ws W w s g') ∧ Stp g g' c ∧ Fi W k0 S g' u ∧ u.things = ys ∧ ys.length = xs.length := by
  obtain ⟨n, rfl⟩ : ∃ m, n = m + 1 := ⟨n - 1, by omega⟩
  obtain ⟨t, g1, e1, s1, ft, tt, bt⟩ := T_make_of (w := w) (s := s) B.e.p.n B.mb B.mo hx hl ok hk (n := n) (by omega)
  have hm : ∀ (k : Int) (s : Sto), 0 ≤ k → k < 2 ^ 60 → runT T n (.f "_law_mixed") [.scr ns, .int k] s = .ok (.int (mx ns k)) s := fun k s a b => mxR_ok B.a hns a b (by omega) s
  have loop : ∀ (js : List Int) {t : Tr} {ys : List D} {g : Gh} {e6 e7 e8 : Option D}, (∀ j ∈ js, 0 ≤ j ∧ j < 4) → GhOk g → k0 ≤ g.k → Fi W k0 S g t → t.things = ys → ys.length = xs.length →
      ∃ u zs g' c a6 a7 a8, forN (set1 6) (evSs (runT T n) baseL) (js.map D.int) [some (.cell w), some (.scr ns), some (.int k), some (.lst xs), some t.d, some (.lst ys), e6, e7, e8] (ws W w s g) = .nx [some (.cell w), some (.scr ns), some (.int k), some (.lst xs), some u.d, some (.lst zs), a6, a7, a8] (ws W w s g') ∧ Stp g g' c ∧ Fi W k0 S g' u ∧ u.things = zs ∧ zs.length = xs.length := by
    intro js
    induction js with
    | nil =>
      intro t ys g e6 e7 e8 _ ok hk ft tt hl
      exact ⟨t, ys, g, 0, e6, e7, e8, rfl, .refl ok 0, ft, tt, hl⟩
    | cons j js ih =>
      intro t ys g e6 e7 e8 hj ok hk ft tt hl
      have hj0 := hj j (List.mem_cons_self ..)
      have ct := Tr.things_len t
      rw [tt] at ct
      have i1 := emod_in (v := mx ns (k + 1 + j)) (m := (ys.length : Int) + 1) (by omega)
      have i2 := emod_in (v := mx ns (k + 5 + j)) (m := mx ns (k + 1 + j) % ((ys.length : Int) + 1) + 1) (by omega)
      obtain ⟨b, hb⟩ := Int.eq_ofNat_of_zero_le i1.1
      rw [hb] at i1 i2
      obtain ⟨a, ha⟩ := Int.eq_ofNat_of_zero_le i2.1
      rw [ha] at i2
      have hb1 : (0 : Int) < (ys.length : Int) + 1 := by omega
      have ha1 : (0 : Int) < (b : Int) + 1 := by omega
      obtain ⟨u, g1, c1, r1, s1, fu, tu⟩ := B_turn (w := w) (s := s) B ok hk ft (i := a) (j := b) (by omega) (by omega) (by omega) (n := n) (by omega)
      rw [tt] at tu
      have lu := Tr.things_len u
      have ly : (ys.take a ++ ((ys.drop a).take (b - a)).reverse ++ ys.drop b).length = xs.length := by
        simp only [List.length_append, List.length_reverse, List.length_take, List.length_drop]; omega
      obtain ⟨v, zs, g2, c2, a6, a7, a8, r2, s2, fv, tv, lv⟩ := ih (e6 := some (.int j)) (e7 := some (.int (b : Int))) (e8 := some (.int (a : Int))) (fun i hi => hj i (List.mem_cons_of_mem _ hi)) s1.ok (Int.le_trans hk s1.le) fu tu ly
      refine ⟨v, zs, g2, _, a6, a7, a8, ?_, s1.trans s2, fv, tv, lv⟩
      rw [List.map_cons, forN]
      have m1 := fun s => hm (k + 1 + j) s (by omega) (by omega)
      have m2 := fun s => hm (k + 5 + j) s (by omega) (by omega)
      have d1 := cutD_to (xs := ys) (m := a)
      have d2 := cutD_mid (xs := ys) (i := a) (j := b) (by omega) (by omega)
      have d3 := cutD_from (xs := ys) (m := b)
      have l1 : (ys.take a).length + (((ys.drop a).take (b - a)).reverse).length ≤ sizeLine := by
        show _ ≤ 16777216
        simp only [List.length_reverse, List.length_take, List.length_drop]; omega
      have l2 : (ys.take a ++ ((ys.drop a).take (b - a)).reverse).length + (ys.drop b).length ≤ sizeLine := by
        rw [← List.length_append, ly]; show _ ≤ 16777216; omega
      have body : (set1 6 (.int j) [some (.cell w), some (.scr ns), some (.int k), some (.lst xs), some t.d, some (.lst ys), e6, e7, e8] (ws W w s g)).andThen (evSs (runT T n) baseL) = .nx [some (.cell w), some (.scr ns), some (.int k), some (.lst xs), some u.d, some (.lst (ys.take a ++ ((ys.drop a).take (b - a)).reverse ++ ys.drop b)), some (.int j), some (.int (b : Int)), some (.int (a : Int))] (ws W w s g1) := by
        simp only [set1, nx_then, setE_s, setE_0, baseL, d_base, dropS, evSs_cons, evSs_nil, evS_asg, evE_bin, evE_call, evEs_cons, evEs_nil, evE_var, evE_int, evE_blt, getV_s, getV_0, bind_ok, bin_add, m1, blt_len_lst, bin_mod, if_pos hb1, hb, thenS_ok, m2, if_pos ha1, ha, r1, evE_sl, evEo_none, evEo_some, slD_lst, d1, d2, d3, evE_rev]
        simp only [revD, seqOf, bind_ok, bin_addl, if_pos l1, if_pos l2, thenS_ok, nx_then, setE_s, setE_0, evSs_nil]
      rw [body]
      exact r2
  have i0 := emod_in (v := mx ns k) (m := 4) (by decide)
  obtain ⟨u, ys, g2, c2, a6, a7, a8, r2, s2, fu, tu, lu⟩ := loop ((List.range (mx ns k % 4).toNat).map fun j : Nat => (j : Int)) (t := t) (ys := xs) (g := g1) (e6 := none) (e7 := none) (e8 := none) (fun j hj => by
    obtain ⟨i, hi, rfl⟩ := List.mem_map.mp hj
    have := List.mem_range.mp hi
    omega) s1.ok (Int.le_trans hk s1.le) ft tt rfl
  rw [List.map_map] at r2
  have rl : rngL (mx ns k % 4) = (List.range (mx ns k % 4).toNat).map (D.int ∘ fun j : Nat => (j : Int)) := rfl
  rw [← rl] at r2
  have rg : -(2 ^ 62) ≤ mx ns k % 4 ∧ mx ns k % 4 < 2 ^ 62 := by omega
  have m0 := fun s => hm k s (by omega) (by omega)
  have m9 := fun s => hm (k + 9) s (by omega) (by omega)
  rw [runT_go [some (.cell w), some (.scr ns), some (.int k), some (.lst xs), none, none, none, none, none] hp rfl rfl]
  have e2 : evSs (runT T n) (takeS 3 d_base.b) [some (.cell w), some (.scr ns), some (.int k), some (.lst xs), none, none, none, none, none] (ws W w s g) = .nx [some (.cell w), some (.scr ns), some (.int k), some (.lst xs), some u.d, some (.lst ys), a6, a7, a8] (ws W w s g2) := by
    simp only [baseL, d_base, dropS] at r2
    simp only [d_base, takeS, evSs_cons, evSs_nil, evS_asg, evE_call, evEs_cons, evEs_nil, evE_var, evE_blt, getV_s, getV_0, bind_ok, blt_list_lst, e1, thenS_ok, setE_s, setE_0, nx_then, evS_for1, evW_rng, evE_bin, evE_int, m0, bin_mod, if_pos (show (0 : Int) < 4 by decide), if_pos rg, r2]
  rw [seg 3 e2]
  have k2 := Int.le_trans hk (Int.le_trans s1.le s2.le)
  by_cases c : mx ns (k + 9) % 3 = 1
  · obtain ⟨v, g3, e3, s3, fv, tv, hv⟩ := T_turn (w := w) (s := s) B.e.p.n B.e.p.turned s2.ok k2 fu (n := n) (by omega)
    refine ⟨v, ys.reverse, g3, _, ?_, (s1.trans s2).trans s3, fv, by rw [tv, tu], by rw [List.length_reverse]; exact lu⟩
    simp [d_base, dropS, m9, c, e3, revD, seqOf]
  · refine ⟨u, ys, g2, _, ?_, s1.trans s2, fu, tu, lu⟩
    simp [d_base, dropS, m9, c]
end MP
/-! F1: cells, mixed numbers, ways of adding of the later laws. -/
namespace MP
open PySem
variable {T : FK → Option Def}

theorem mulL {x y : Int} (h : x.natAbs < 2 ^ 64) : mulOk x y := .inr (.inl h)
theorem mulR {x y : Int} (h : y.natAbs < 2 ^ 64) : mulOk x y := .inr (.inr h)
theorem run_cell (h : T (.f "_law_cell") = some d_cell) {ns : List Int} (hns : ns.length ≤ 63) {k : Int} (h0 : 0 ≤ k) (h1 : k < 2 ^ 40) : ∃ v : Int, ∀ (n : Nat) (s : Sto), 1 ≤ n → runT T n (.f "_law_cell") [.scr ns, .int k] s = .ok (.int v) s := by
  by_cases hk : k < (ns.length : Int)
  · have e : L2.atI (ns.map D.int) k = some (.int (ns.getD k.toNat 0)) := by
      rw [atI_nn h0, List.getElem?_map, List.getD_eq_getElem?_getD, List.getElem?_eq_getElem (by omega)]; rfl
    refine ⟨ns.getD k.toNat 0, fun n s hn => ?_⟩
    obtain ⟨n, rfl⟩ : ∃ m, n = m + 1 := ⟨n - 1, by omega⟩
    rw [runT_at h]
    simp [d_cell, envOf, hk, e]
  · have m1 : mulOk k 7919 := mulR (by decide)
    have p9 : (0 : Int) < 2147483629 := by decide
    by_cases hl : 0 < ns.length
    · have hl' : (0 : Int) < (ns.length : Int) := by omega
      have i0 := emod_in (v := k * 7) hl'
      have e : L2.atI (ns.map D.int) (k * 7 % (ns.length : Int)) = some (.int (ns.getD (k * 7 % (ns.length : Int)).toNat 0)) := by
        rw [atI_nn i0.1, List.getElem?_map, List.getD_eq_getElem?_getD, List.getElem?_eq_getElem (by omega)]; rfl
      have m2 : mulOk k 7 := mulR (by decide)
      have m3 : ∀ x, mulOk x 48271 := fun x => mulR (by decide)
      have i1 := emod_in (v := ns.getD (k * 7 % (ns.length : Int)).toNat 0 * 48271 + k * 7919) (m := 2147483647) (by decide)
      have m4 : mulOk ((ns.getD (k * 7 % (ns.length : Int)).toNat 0 * 48271 + k * 7919) % 2147483647) ((ns.getD (k * 7 % (ns.length : Int)).toNat 0 * 48271 + k * 7919) % 2147483647) := mulL (by omega)
      refine ⟨(ns.getD (k * 7 % (ns.length : Int)).toNat 0 * 48271 + k * 7919) % 2147483647 * ((ns.getD (k * 7 % (ns.length : Int)).toNat 0 * 48271 + k * 7919) % 2147483647) % 2147483629, fun n s hn => ?_⟩
      obtain ⟨n, rfl⟩ : ∃ m, n = m + 1 := ⟨n - 1, by omega⟩
      have dk := decide_eq_false hk
      have dl := decide_eq_true hl'
      rw [runT_go [some (.scr ns), some (.int k), none] h rfl rfl]
      simp only [d_cell, evSs_cons, evSs_nil, evS_ifs, evE_cmp, evE_blt, evEs_cons, evEs_nil, evE_var, evE_int, getV_s, getV_0, bind_ok, blt_len_scr, cmp_lt, dk, thenS_ok, nx_then, evS_asg, evE_bin, bin_mul, if_pos m1, if_pos m2, bin_add, setE_s, setE_0, cmp_gt, dl, evE_ix, bin_mod, if_pos hl', ix_scr, e, okO_some, if_pos (m3 _), if_pos (show (0 : Int) < 2147483647 by decide), evS_ret, if_pos m4, if_pos p9, rt_then, endS_rt]
    · have hl' : ¬ (0 : Int) < (ns.length : Int) := by omega
      have m4 : mulOk (k * 7919 + 5) (k * 7919 + 5) := mulL (by omega)
      refine ⟨(k * 7919 + 5) * (k * 7919 + 5) % 2147483629, fun n s hn => ?_⟩
      obtain ⟨n, rfl⟩ : ∃ m, n = m + 1 := ⟨n - 1, by omega⟩
      have dk := decide_eq_false hk
      have dl := decide_eq_false hl'
      rw [runT_go [some (.scr ns), some (.int k), none] h rfl rfl]
      simp only [d_cell, evSs_cons, evSs_nil, evS_ifs, evE_cmp, evE_blt, evEs_cons, evEs_nil, evE_var, evE_int, getV_s, getV_0, bind_ok, blt_len_scr, cmp_lt, dk, thenS_ok, nx_then, evS_asg, evE_bin, bin_mul, if_pos m1, bin_add, setE_s, setE_0, cmp_gt, dl, evS_ret, if_pos m4, bin_mod, if_pos p9, rt_then, endS_rt]
theorem run_mixed2 (h : T (.f "_law_mixed") = some d_mixed_2) {c k : Int} (h0 : 0 ≤ k) (h1 : k < 2 ^ 30) : ∃ v : Int, 0 ≤ v ∧ v < 2147483587 ∧ ∀ (n : Nat) (s : Sto), 1 ≤ n → runT T n (.f "_law_mixed") [.int c, .int k] s = .ok (.int v) s := by
  have i0 := emod_in (v := c) (m := 2147483647) (by decide)
  have m1 : mulOk k k := mulL (by omega)
  have m2 : mulOk (c % 2147483647 + 1) (k * k + 48271) := mulL (by omega)
  have i1 := emod_in (v := (c % 2147483647 + 1) * (k * k + 48271)) (m := 2147483629) (by decide)
  have m3 : mulOk ((c % 2147483647 + 1) * (k * k + 48271) % 2147483629) ((c % 2147483647 + 1) * (k * k + 48271) % 2147483629 + k) := mulL (by omega)
  have i2 := emod_in (v := (c % 2147483647 + 1) * (k * k + 48271) % 2147483629 * ((c % 2147483647 + 1) * (k * k + 48271) % 2147483629 + k)) (m := 2147483587) (by decide)
  refine ⟨_, i2.1, i2.2, fun n s hn => ?_⟩
  obtain ⟨n, rfl⟩ : ∃ m, n = m + 1 := ⟨n - 1, by omega⟩
  rw [runT_go [some (.int c), some (.int k), none] h rfl rfl]
  simp only [d_mixed_2, evSs_cons, evSs_nil, evS_asg, evE_bin, evE_var, evE_int, getV_s, getV_0, bind_ok, bin_mod, if_pos (show (0 : Int) < 2147483647 by decide), bin_add, bin_mul, if_pos m1, if_pos m2, if_pos (show (0 : Int) < 2147483629 by decide), thenS_ok, nx_then, setE_s, setE_0, evS_ret, if_pos m3, if_pos (show (0 : Int) < 2147483587 by decide), rt_then, endS_rt]
/-! ### ways of adding by name -/
def wayS' (x : Str) (H : T (.f x) = some d_add_joined) : Way T where
  A := .fn x
  P := isS
  wt := wtS
  op := opJ
  cl := fun ⟨i, hi⟩ ⟨j, hj⟩ => ⟨i ++ j, by rw [hi, hj]; rfl⟩
  as := fun ⟨i, hi⟩ ⟨j, hj⟩ ⟨k, hk⟩ => by rw [hi, hj, hk]; simp [opJ, str_assoc]
  wo := fun ⟨i, hi⟩ ⟨j, hj⟩ => by rw [hi, hj]; simp [opJ, wtS, PySem.Str.length_append]
  run := .inr ⟨_, rfl, fun n s a b ⟨i, hi⟩ ⟨j, hj⟩ h => by
    rw [hi, hj] at h ⊢
    have h' : i.length + j.length ≤ 16777216 := by
      have h : i.length + j.length ≤ 1048576 := h
      omega
    rw [runT_at H]; simp [d_add_joined, envOf, opJ, h']⟩
  pl := fun ⟨i, hi⟩ => by rw [hi]; simp
  nn := fun ⟨i, hi⟩ => by rw [hi]; rfl
def wayP' (x : Str) (H : T (.f x) = some d_add_pairs) : Way T where
  A := .fn x
  P := isP
  wt := fun _ => 0
  op := opP
  cl := fun ⟨i, j, hi, p, q⟩ ⟨k, l, hk, p', q'⟩ => ⟨i * k % 1000003, (j * k + l) % 1000003, by rw [hi, hk]; rfl, pm_mod, pm_mod⟩
  as := fun ⟨i, j, hi, p, q⟩ ⟨k, l, hk, p', q'⟩ ⟨m, n, hm, p'', q''⟩ => by
    rw [hi, hk, hm]
    simp only [opP, D.tup.injEq, List.cons.injEq, D.int.injEq, and_true]
    constructor
    · rw [Int.mul_emod, Int.emod_emod, ← Int.mul_emod, Int.mul_assoc, Int.mul_emod i, Int.mul_emod i (k * m % 1000003), Int.emod_emod]
    · rw [Int.add_emod, Int.mul_emod ((j * k + l) % 1000003), Int.emod_emod, ← Int.mul_emod, ← Int.add_emod, Int.add_emod (j * (k * m % 1000003)), Int.mul_emod j (k * m % 1000003), Int.emod_emod, ← Int.mul_emod j, Int.emod_emod, ← Int.add_emod, Int.add_mul, Int.mul_assoc, Int.add_assoc]
  wo := fun _ _ => Nat.zero_le _
  run := .inr ⟨_, rfl, fun n s a b ⟨i, j, hi, p, q⟩ ⟨k, l, hk, p', q'⟩ _ => by
    rw [hi, hk, runT_at H]
    have m1 := mul_ok (pm_sm p) (pm_sm p') (by decide)
    have m2 := mul_ok (pm_sm q) (pm_sm p') (by decide)
    simp [d_add_pairs, envOf, opP, m1, m2]⟩
  pl := fun ⟨i, j, hi, _⟩ => by rw [hi]; exact (pln_tup (n := 0) fun x hx => by simp at hx; rcases hx with rfl | rfl <;> simp).mono (by decide)
  nn := fun ⟨i, j, hi, _⟩ => by rw [hi]; rfl
structure HF (T : FK → Option Def) : Prop where
  cell : T (.f "_law_cell") = some d_cell
  mixed : T (.f "_law_mixed") = some d_mixed_2
  joined : T (.f "_law_joined") = some d_add_joined
  behind : T (.f "_law_behind") = some d_add_pairs
  way : T (.f "_law_way") = some d_way
  thing : T (.f "_law_thing") = some d_thing_2
/-- the way of a cell's rest by four -/
def wayF (H : HF T) (k : Int) : Way T := if k = 0 then wayN T else if k = 2 then wayP' "_law_behind" H.behind else wayS' "_law_joined" H.joined
theorem run_way (H : HF T) {ns : List Int} {c : Int} (hc : ∀ (n : Nat) (s : Sto), 1 ≤ n → runT T n (.f "_law_cell") [.scr ns, .int 0] s = .ok (.int c) s) {n : Nat} (hn : 2 ≤ n) (s : Sto) : runT T n (.f "_law_way") [.scr ns] s = .ok (wayF H (c % 4)).A s := by
  obtain ⟨n, rfl⟩ : ∃ m, n = m + 1 := ⟨n - 1, by omega⟩
  have i := emod_in (v := c) (m := 4) (by decide)
  have hc' := hc n s (by omega)
  have e : c % 4 = 0 ∨ c % 4 = 1 ∨ c % 4 = 2 ∨ c % 4 = 3 := by omega
  rw [runT_at H.way]
  rcases e with e | e | e | e <;> rw [e] <;> simp [d_way, envOf, hc', e, wayF, wayN, wayP', wayS']
def letter8 (f : Int → Int) (j : Int) : Nat := ((("abcdefgh" : Str).cps.toList).getD (f j % 8).toNat 0)
theorem len8 : ("abcdefgh" : Str).length = 8 := by decide +kernel
theorem run_thingF (H : HF T) {ns : List Int} {c0 : Int} (hc : ∀ (n : Nat) (s : Sto), 1 ≤ n → runT T n (.f "_law_cell") [.scr ns, .int 0] s = .ok (.int c0) s) (c : Int) :
    ∃ x, (wayF H (c0 % 4)).Th x ∧ ∀ (n : Nat) (s : Sto), 2 ≤ n → runT T n (.f "_law_thing") [.scr ns, .int c] s = .ok x s := by
  have i0 := emod_in (v := c0) (m := 4) (by decide)
  by_cases h2 : c0 % 4 = 2
  · obtain ⟨a, _, _, ha⟩ := run_mixed2 H.mixed (c := c) (k := 1) (by decide) (by decide)
    obtain ⟨b, _, _, hb⟩ := run_mixed2 H.mixed (c := c) (k := 2) (by decide) (by decide)
    refine ⟨.tup [.int (a % 1000003), .int (b % 1000003)], ?_, fun n s hn => ?_⟩
    · rw [h2]; exact ⟨⟨_, _, rfl, pm_mod, pm_mod⟩, Nat.zero_le _⟩
    · obtain ⟨n, rfl⟩ : ∃ m, n = m + 1 := ⟨n - 1, by omega⟩
      rw [runT_at H.thing]
      simp [d_thing_2, envOf, hc n s (by omega), h2, ha n s (by omega), hb n s (by omega)]
  · by_cases h0 : c0 % 4 = 0 ∧ c % 2 = 0
    · refine ⟨.int (c / 2 * 982451653 % 1000000000000000000007 - 500), ?_, fun n s hn => ?_⟩
      · rw [h0.1]; exact ⟨.inl ⟨_, rfl⟩, Nat.zero_le _⟩
      · obtain ⟨n, rfl⟩ : ∃ m, n = m + 1 := ⟨n - 1, by omega⟩
        have m1 : mulOk (c / 2) 982451653 := mulR (by decide)
        rw [runT_at H.thing]
        simp [d_thing_2, envOf, hc n s (by omega), h0, m1]
    · have mE : ∀ j : Nat, ∃ v : Int, j < 10 → 0 ≤ v ∧ ∀ (n : Nat) (s : Sto), 1 ≤ n → runT T n (.f "_law_mixed") [.int c, .int (j : Int)] s = .ok (.int v) s := fun j => by
        by_cases h : j < 10
        · obtain ⟨a, a0, _, ha⟩ := run_mixed2 H.mixed (c := c) (k := (j : Int)) (by omega) (by omega)
          exact ⟨a, fun _ => ⟨a0, ha⟩⟩
        · exact ⟨0, fun z => absurd z h⟩
      let f : Int → Int := fun j => Classical.choose (mE j.toNat)
      have fOk : ∀ j : Nat, j < 10 → 0 ≤ f j ∧ ∀ (n : Nat) (s : Sto), 1 ≤ n → runT T n (.f "_law_mixed") [.int c, .int (j : Int)] s = .ok (.int (f j)) s := fun j hj => by
        have := Classical.choose_spec (mE ((j : Int)).toNat)
        simp only [Int.toNat_natCast] at this
        exact this hj
      have i3 := emod_in (v := c / 2) (m := 3) (by decide)
      have tx : ∀ (n : Nat) (s : Sto), 1 ≤ n → (txt (1 + c / 2 % 3) (letter8 f)).length ≤ (1 + c / 2 % 3).toNat ∧ evE (runT T n) (.join (.str "") (.lc false 3 (.rng (.bin .add (.int 1) (.bin .mod (.bin .fdiv (.var 1) (.int 2)) (.int 3)))) .none (.ix (.str "abcdefgh") (.bin .mod (.call "_law_mixed" (.cons (.var 1) (.cons (.var 3) .nil))) (.int 8)))))
          [some (.scr ns), some (.int c), some (.int (c0 % 4)), none] s = .ok (.str (txt (1 + c / 2 % 3) (letter8 f))) s := fun n s hn =>
        run_text (by omega) (by omega) (letter8 f) (fun j hj => by
          obtain ⟨_, hf⟩ := fOk j (by omega)
          have i8 := emod_in (v := f j) (m := 8) (by decide)
          have hl : ("abcdefgh" : Str).cps.toList.length = 8 := by rw [Array.length_toList]; exact len8
          have ix : ixD (.str "abcdefgh") (.int (f j % 8)) s = .ok (.str ⟨#[letter8 f j]⟩) s := by
            unfold ixD
            dsimp only
            rw [if_pos (by rw [len8]; decide)]
            show okO ((L2.atI _ (f j % 8)).map _) s = _
            rw [atI_nn i8.1, List.getElem?_eq_getElem (by rw [hl]; omega)]
            unfold letter8
            rw [List.getD_eq_getElem?_getD, List.getElem?_eq_getElem (by rw [hl]; omega)]
            rfl
          simp only [setE_s, setE_0, evE_ix, evE_str, evE_bin, evE_call, evEs_cons, evEs_nil, evE_var, evE_int, getV_s, getV_0, bind_ok, hf n s hn, bin_mod, if_pos (show (0 : Int) < 8 by decide), ix]) (by simp)
      refine ⟨.str (txt (1 + c / 2 % 3) (letter8 f)), ?_, fun n s hn => ?_⟩
      · have tl := (tx 1 sto0 (by decide)).1
        have tl' : (txt (1 + c / 2 % 3) (letter8 f)).length ≤ 64 := by omega
        unfold wayF
        by_cases e0 : c0 % 4 = 0
        · rw [if_pos e0]; exact ⟨.inr ⟨_, rfl⟩, tl'⟩
        · rw [if_neg e0, if_neg h2]; exact ⟨⟨_, rfl⟩, tl'⟩
      · obtain ⟨n, rfl⟩ : ∃ m, n = m + 1 := ⟨n - 1, by omega⟩
        have t2 := (tx n s (by omega)).2
        rw [runT_go [some (.scr ns), some (.int c), none, none] H.thing rfl rfl]
        have e : evSs (runT T n) (takeS 3 d_thing_2.b) [some (.scr ns), some (.int c), none, none] s = .nx [some (.scr ns), some (.int c), some (.int (c0 % 4)), none] s := by
          by_cases e0 : c0 % 4 = 0
          · have e1 : ¬ c % 2 = 0 := fun h => h0 ⟨e0, h⟩
            simp [d_thing_2, takeS, hc n s (by omega), e0, e1]
          · simp [d_thing_2, takeS, hc n s (by omega), e0, h2]
        rw [seg 3 e]
        simp only [d_thing_2, dropS, evSs_cons, evS_ret, t2, thenS_ok, rt_then, endS_rt]
end MP
/-! K16: parts and turned parts. -/
namespace MP
open PySem
variable {T : FK → Option Def}

def g0 : Gh := ⟨0, fun _ => none⟩
theorem g0_ok : GhOk g0 := ⟨Int.le_refl _, fun _ _ h => by cases h⟩
theorem ws_g0 {W : Way T} : stoW W.A 0 = ws W 0 (stoW W.A 0) g0 := (ws_self (g := g0) rfl).symm
def noS : Tr → Prop := fun _ => False
theorem parts3 {α : Type} {l m r : List α} {a b : Nat} (la : l.length = a) (lm : m.length = b - a) (hab : a ≤ b) : (l ++ m ++ r).take a = l ∧ ((l ++ m ++ r).drop a).take (b - a) = m ∧ (l ++ m ++ r).drop b = r := by
  subst la
  refine ⟨by rw [List.append_assoc, List.take_left], ?_, ?_⟩
  · rw [List.append_assoc, List.drop_left, ← lm, List.take_left]
  · have e : b = (l ++ m).length := by rw [List.length_append, lm]; omega
    rw [e, List.drop_left]
theorem law_k16 (B : HB T) (hI : T (.m "Wood" "__init__") = some d_Wood_init) (hL : T (.f "_law_list") = some d_list) (hB : T (.f "_law_base") = some d_base) (hw : T (.f "_law_walk") = some d_walk_3) (hi : T (.f "_law_is") = some d_is) (hp : T (.f "part") = some d_part) (hl : T (.f "law") = some d_law_16) : Law T 60 := by
  intro ns hns
  have hm : ∀ (k : Int) (s : Sto), 0 ≤ k → k < 2 ^ 60 → runT T 59 (.f "_law_mixed") [.scr ns, .int k] s = .ok (.int (mx ns k)) s := fun k s a b => mxR_ok B.a hns a b (by decide) s
  have m0 := fun s => hm 0 s (by decide) (by decide)
  have m1 := fun s => hm 1 s (by decide) (by decide)
  have m2 := fun s => hm 2 s (by decide) (by decide)
  have m3 := fun s => hm 3 s (by decide) (by decide)
  have m5 := emod_in (v := mx ns 0) (m := 5) (by decide)
  have hκ : 0 ≤ mx ns 0 % 5 ∧ mx ns 0 % 5 ≤ 4 := ⟨m5.1, by omega⟩
  rw [runT_go [some (.scr ns), none, none, none, none, none, none, none, none, none] hl rfl rfl]
  have e1 : evSs (runT T 59) (takeS 1 d_law_16.b) [some (.scr ns), none, none, none, none, none, none, none, none, none] sto0 = .nx [some (.scr ns), some (.int (mx ns 0 % 5)), none, none, none, none, none, none, none, none] sto0 := by
    simp [d_law_16, takeS, m0]
  rw [seg 1 e1]
  generalize mx ns 0 % 5 = κ at hκ
  have hA : ∀ s, runT T 59 (.f "_law_adding") [.int κ] s = .ok (way B.a κ).A s := fun s => run_adding B.a hκ.1
  obtain ⟨xs, hx, hxl, _, hxs⟩ := T_list B.a hL hns (k := 10) (κ := κ) (b := true) (by decide) (by decide) hκ.1 hκ.2
  have his := fun {t : Tr} (g : Good (way B.a κ) t) (hc : t.cnt ≤ 2000) (s : Sto) => T_is B.a hw hi hκ.1 (n := 59) g hc (by decide) s
  generalize hW : way B.a κ = W at *
  have hiw := run_mkWood hI (n := 58) (A := W.A)
  have z : sto0.nx = 0 := rfl
  rw [z] at hiw
  obtain ⟨t, ys, g1, c1, r1, s1, ft, tt, ly⟩ := T_base (w := 0) (s := stoW W.A 0) (k0 := 0) (S := noS) B hB hns (k := 300) (by decide) (by decide) hx (by omega) g0_ok (by decide) (n := 59) (by decide)
  rw [← ws_g0] at r1
  have e2 : evSs (runT T 59) (takeS 2 (dropS 1 d_law_16.b)) [some (.scr ns), some (.int κ), none, none, none, none, none, none, none, none] sto0 = .nx [some (.scr ns), some (.int κ), some (.cell 0), some t.d, some (.lst ys), none, none, none, none, none] (ws W 0 (stoW W.A 0) g1) := by
    simp [d_law_16, takeS, dropS, hA, hiw, z, hxs, r1, unpD, putAll]
  rw [seg 2 e2]
  have ct := Tr.things_len t
  rw [tt] at ct
  have i1 := emod_in (v := mx ns 1) (m := (ys.length : Int) + 1) (by omega)
  have i2 := emod_in (v := mx ns 2) (m := mx ns 1 % ((ys.length : Int) + 1) + 1) (by omega)
  have i3 := emod_in (v := mx ns 3) (m := 4) (by decide)
  have hb1 : (0 : Int) < (ys.length : Int) + 1 := by omega
  have hb2 : (0 : Int) < mx ns 1 % ((ys.length : Int) + 1) + 1 := by omega
  have e3 : ∃ a b : Nat, a ≤ b ∧ b ≤ ys.length ∧ evSs (runT T 59) (takeS 5 (dropS 2 (dropS 1 d_law_16.b))) [some (.scr ns), some (.int κ), some (.cell 0), some t.d, some (.lst ys), none, none, none, none, none] (ws W 0 (stoW W.A 0) g1) =
      .nx [some (.scr ns), some (.int κ), some (.cell 0), some t.d, some (.lst ys), some (.int b), some (.int a), some (.int (mx ns 3 % 4)), none, none] (ws W 0 (stoW W.A 0) g1) := by
    obtain ⟨b, hb⟩ := Int.eq_ofNat_of_zero_le i1.1
    rw [hb] at i1 i2 hb2
    obtain ⟨a, ha⟩ := Int.eq_ofNat_of_zero_le i2.1
    rw [ha] at i2
    have st : evSs (runT T 59) (takeS 3 (dropS 2 (dropS 1 d_law_16.b))) [some (.scr ns), some (.int κ), some (.cell 0), some t.d, some (.lst ys), none, none, none, none, none] (ws W 0 (stoW W.A 0) g1) =
        .nx [some (.scr ns), some (.int κ), some (.cell 0), some t.d, some (.lst ys), some (.int b), some (.int a), some (.int (mx ns 3 % 4)), none, none] (ws W 0 (stoW W.A 0) g1) := by
      simp only [d_law_16, takeS, dropS, evSs_cons, evSs_nil, evS_asg, evE_bin, evE_call, evEs_cons, evEs_nil, evE_var, evE_int, evE_blt, getV_s, getV_0, bind_ok, m1, m2, m3, blt_len_lst, bin_add, bin_mod, if_pos hb1, hb, thenS_ok, nx_then, setE_s, setE_0, if_pos hb2, ha, if_pos (show (0 : Int) < 4 by decide)]
    have two : ∀ a' b' : Nat, (mx ns 3 % 4 = 0 → a' = b ∧ b' = b) → (mx ns 3 % 4 = 1 → a' = 0 ∧ b' = ys.length) → (mx ns 3 % 4 ≠ 0 → mx ns 3 % 4 ≠ 1 → a' = a ∧ b' = b) → evSs (runT T 59) (takeS 5 (dropS 2 (dropS 1 d_law_16.b))) [some (.scr ns), some (.int κ), some (.cell 0), some t.d, some (.lst ys), none, none, none, none, none] (ws W 0 (stoW W.A 0) g1) =
      .nx [some (.scr ns), some (.int κ), some (.cell 0), some t.d, some (.lst ys), some (.int b'), some (.int a'), some (.int (mx ns 3 % 4)), none, none] (ws W 0 (stoW W.A 0) g1) := by
      intro a' b' q0 q1 q2
      rw [split_at 3, show takeS 3 (takeS 5 (dropS 2 (dropS 1 d_law_16.b))) = takeS 3 (dropS 2 (dropS 1 d_law_16.b)) from rfl, st, nx_then]
      generalize mx ns 3 % 4 = v at *
      by_cases v0 : v = 0
      · obtain ⟨rfl, rfl⟩ := q0 v0
        simp [d_law_16, takeS, dropS, v0]
      · by_cases v1 : v = 1
        · obtain ⟨rfl, rfl⟩ := q1 v1
          simp [d_law_16, takeS, dropS, v1]
        · obtain ⟨rfl, rfl⟩ := q2 v0 v1
          simp [d_law_16, takeS, dropS, v0, v1]
    by_cases v0 : mx ns 3 % 4 = 0
    · exact ⟨b, b, Nat.le_refl _, by omega, two b b (fun _ => ⟨rfl, rfl⟩) (fun h => by omega) (fun h => absurd v0 h)⟩
    · by_cases v1 : mx ns 3 % 4 = 1
      · exact ⟨0, ys.length, Nat.zero_le _, Nat.le_refl _, two 0 ys.length (fun h => absurd h v0) (fun _ => ⟨rfl, rfl⟩) (fun _ h => absurd v1 h)⟩
      · exact ⟨a, b, by omega, by omega, two a b (fun h => absurd h v0) (fun h => absurd h v1) (fun _ _ => ⟨rfl, rfl⟩)⟩
  obtain ⟨a, b, hab, hbl, e3⟩ := e3
  rw [seg 5 e3]
  have tc : t.cnt ≤ 2000 := by omega
  have h15 := ft.good.h15 tc
  have k1 : (0 : Int) ≤ g1.k := s1.ok.nn
  obtain ⟨u, g2, c2, r2, s2, fu, tu, _⟩ := R_part (w := 0) (s := stoW W.A 0) B.e B.ask B.stretch B.cutat hp s1.ok k1 ft tc hab (by omega) (n := 59) (by omega)
  obtain ⟨v, g3, c3, r3, s3, fv, tv⟩ := B_turn (w := 0) (s := stoW W.A 0) B s2.ok s2.ok.nn (ft.mono s2) tc hab (by omega) (n := 59) (by decide)
  rw [tt] at tu tv
  have lu := Tr.things_len u
  have lv := Tr.things_len v
  rw [tu, List.length_drop, List.length_take] at lu
  rw [tv] at lv
  simp only [List.length_append, List.length_reverse, List.length_take, List.length_drop] at lv
  obtain ⟨x, g4, c4, r4, s4, fx, tx⟩ := B_turn (w := 0) (s := stoW W.A 0) B s3.ok s3.ok.nn fv (by omega) hab (by omega) (n := 59) (by decide)
  rw [tv] at tx
  have ex : x.things = ys := by
    rw [tx]
    have la : (ys.take a).length = a := by rw [List.length_take]; omega
    have lm : (((ys.drop a).take (b - a)).reverse).length = b - a := by rw [List.length_reverse, List.length_take, List.length_drop]; omega
    obtain ⟨p1, p2, p3⟩ := parts3 (r := ys.drop b) la lm hab
    rw [p1, p2, p3, List.reverse_reverse]
    have e5 : (ys.drop a).take (b - a) ++ ys.drop b = ys.drop a := by
      conv => rhs; rw [← List.take_append_drop (b - a) (ys.drop a), List.drop_drop, show a + (b - a) = b by omega]
    rw [List.append_assoc, e5, List.take_append_drop]
  have lx := Tr.things_len x
  rw [ex] at lx
  have q1 := his fu.good (by omega)
  have q2 := his fv.good (by omega)
  have q3 := his fx.good (by omega)
  have q4 := his ft.good tc
  rw [tt] at q4
  rw [ex] at q3
  have d2 := cutD_mid (xs := ys) (i := a) (j := b) hab hbl
  rw [tu, List.drop_take] at q1
  rw [tv] at q2
  have d1 := cutD_to (xs := ys) (m := a)
  have d3 := cutD_from (xs := ys) (m := b)
  have l1 : (ys.take a).length + (((ys.drop a).take (b - a)).reverse).length ≤ sizeLine := by
    show _ ≤ 16777216
    simp only [List.length_reverse, List.length_take, List.length_drop]; omega
  have l2 : (ys.take a ++ ((ys.drop a).take (b - a)).reverse).length + (ys.drop b).length ≤ sizeLine := by
    show _ ≤ 16777216
    simp only [List.length_append, List.length_reverse, List.length_take, List.length_drop]; omega
  refine ⟨ws W 0 (stoW W.A 0) g4, ?_⟩
  simp only [d_law_16, dropS, evSs_cons, evSs_nil, evS_ifs, evE_nt, evE_call, evEs_cons, evEs_nil, evE_var, getV_s, getV_0, bind_ok, r2, evE_sl, evEo_some, evEo_none, slD_lst, d2, q1, thenS_ok, Bool.not_true, nx_then, evS_asg, r3, setE_s, setE_0, evE_bin, evE_rev, d1, d3]
  simp only [evSs_cons, evSs_nil, evS_asg, revD, seqOf, bind_ok, bin_addl, if_pos l1, if_pos l2, q2, thenS_ok, Bool.not_true, nx_then, r4, evS_ret, evE_an, evAnd_more, evAnd_one, evE_call, evEs_cons, evEs_nil, evE_var, getV_s, getV_0, setE_s, setE_0, q3, q4, rt_then, endS_rt]
end MP
/-! X1: exceptions that are kept, for simp; a store of a wood and a list. -/
namespace MP
open PySem
variable {T : FK → Option Def}

@[simp] theorem isNon_ex {C : Str} : isNon (.ex C) = false := rfl
@[simp] theorem isCell_ex {C : Str} : isCell (.ex C) = false := rfl
theorem forN_d {st : D → Env → Sto → SO} {b : Env → Sto → SO} {x : D} {xs : List D} {δ : Env} {s : Sto} : forN st b (x :: xs) δ s = ((st x δ s).andThen b).andThen (forN st b xs) := rfl
/-- the store of a wood w and a list p -/
def lw (A : D) (s : Sto) (w p : Nat) (k : Int) (l : List D) : Sto := (s.set p (.lst l)).set w (woodC A k)
section
variable {A : D} {s : Sto} {w p : Nat} {k k' : Int} {l l' : List D}
theorem lw_w : (lw A s w p k l).m w = some (woodC A k) := by simp [lw]
theorem lw_p (h : w ≠ p) : (lw A s w p k l).m p = some (.lst l) := by
  unfold lw; rw [set_ne (Ne.symm h)]; simp
theorem lw_setw : (lw A s w p k l).set w (woodC A k') = lw A s w p k' l := by unfold lw; rw [set_set]
theorem lw_setp (h : w ≠ p) : (lw A s w p k l).set p (.lst l') = lw A s w p k l' := by
  unfold lw Sto.set
  congr
  funext j
  by_cases h1 : j = w
  · subst h1; simp [h]
  · by_cases h2 : j = p
    · subst h2; simp [h1]
    · simp [h1, h2]
theorem ix_lw (h : w ≠ p) {i : Nat} {d : D} (hi : l[i]? = some d) : ixD (.cell p) (.int (i : Int)) (lw A s w p k l) = .ok d (lw A s w p k l) := by
  rw [ix_cell (lw_p h), ix_lst, atI_nat, hi]; rfl
theorem app_lw (h : w ≠ p) {d : D} (hl : l.length < sizeLine) : appD (.cell p) d (lw A s w p k l) = some (lw A s w p k (l ++ [d])) := by
  unfold appD
  dsimp only
  rw [lw_p h]
  dsimp only
  rw [if_pos hl, lw_setp h]
theorem isl_lw (h : w ≠ p) : isLstC (.cell p) (lw A s w p k l) = true := by
  unfold isLstC
  dsimp only
  rw [lw_p h]
end
end MP
/-! K10: lists and places. -/
namespace MP
open PySem
variable {T : FK → Option Def} {W : Way T} {w : Nat}

/-- things_of, the list the asker's own -/
theorem R_thingsC (hp : T (.f "things_of") = some d_things_of) {t : Tr} (gt : Good W t) (hh : t.hgt ≤ 60) (hc : t.cnt ≤ 100000) {n : Nat} (hn : 1 ≤ n) (s : Sto) : ∃ s' f, runT T n (.f "things_of") [t.d] s = .ok (.cell f) s' ∧ Kep s s' ∧ s'.m f = some (.lst t.things) ∧ s.nx ≤ f ∧ f < s'.nx := by
  obtain ⟨n, rfl⟩ : ∃ m, n = m + 1 := ⟨n - 1, by omega⟩
  have a1 : ((s.new (.lst [])).new (.lst [.tup [t.d, .bl false]])).m s.nx = some (.lst []) := new_old (new_new) (by simp)
  have a2 : ((s.new (.lst [])).new (.lst [.tup [t.d, .bl false]])).m (s.nx + 1) = some (.lst [.tup [t.d, .bl false]]) := new_new (s := s.new (.lst []))
  obtain ⟨s', td', a3, a4, a5, a6, r, r2, r3⟩ := things_loop (T := T) (W := W) n turns (st := [.tr t false]) (found := []) (s := (s.new (.lst [])).new (.lst [.tup [t.d, .bl false]])) (f := s.nx) (td := s.nx + 1) (e0 := some t.d) (e3 := none) (e4 := none) (e5 := none) (e6 := none)
    (fun i hi => by rw [List.mem_singleton.mp hi]; exact ⟨gt, hh⟩) (by simp [wts, Item.wt, turns]; omega) (by decide) (by simp [wts, Item.wt]; omega) a1 a2 (by omega) (by simp; omega) (by simp)
  have hnx := r3.nx
  simp at hnx
  refine ⟨s', s.nx, ?_, ⟨by omega, fun i hi => ?_⟩, by rw [r2]; simp [Item.seq, seqT], Nat.le_refl _, by omega⟩
  · rw [runT_at hp]
    simp only [tloop, d_things_of_2, dropS] at r
    simp [d_things_of, envOf, r]
  · rw [r3.m i (by simp; omega) (by omega) (by omega)]
    show (if i = s.nx + 1 then _ else (if i = s.nx then _ else s.m i)) = _
    rw [if_neg (by omega), if_neg (by omega)]
/-- a place that is not there -/
theorem at_no (H : HN T) (ha : T (.f "ask_place") = some d_ask_place) (hp : T (.f "at") = some d_at) {t : Tr} (gt : Good W t) {p : Int} (h : p < 0 ∨ (t.cnt : Int) - 1 < p) {n : Nat} (hn : 2 ≤ n) (s : Sto) : runT T n (.f "at") [t.d, .int p] s = .exc ⟨"NoPlace", []⟩ s := by
  obtain ⟨n, rfl⟩ : ∃ m, n = m + 1 := ⟨n - 1, by omega⟩
  have z := cntR H gt (n := n) (by omega)
  have q := ask_no ha (p := p) (a := 0) (b := (t.cnt : Int) - 1) h (n := n) (by omega)
  rw [runT_at hp]
  simp [d_at, envOf, z, q]
theorem run_refused10 (H : HN T) (ha : T (.f "ask_place") = some d_ask_place) (hp : T (.f "at") = some d_at) (hr : T (.f "_law_refused") = some d_refused) {t : Tr} (gt : Good W t) {p : Int} (h : p < 0 ∨ (t.cnt : Int) - 1 < p) {n : Nat} (hn : 3 ≤ n) (s : Sto) : runT T n (.f "_law_refused") [t.d, .int p] s = .ok (.bl true) s := by
  obtain ⟨n, rfl⟩ : ∃ m, n = m + 1 := ⟨n - 1, by omega⟩
  have q := at_no H ha hp gt h (n := n) (by omega) s
  have kt := fun δ hi => keep_t (i := 3) (j := 2) (δ := δ) (s := s) (subs := [("NoBalance", true), ("NoPlace", true), ("TooMany", true)]) (C := "NoPlace") rfl hi
  rw [runT_at hr]
  simp [d_refused, envOf, q, kt, List.lookup]
theorem isin_cellL {f : Nat} {xs : List D} {s : Sto} (h : s.m f = some (.lst xs)) : isinD "list" (.cell f) s = some true := by
  unfold isinD
  simp only [h]
  decide +kernel
theorem law_k10 (B : HB T) (hI : T (.m "Wood" "__init__") = some d_Wood_init) (hL : T (.f "_law_list") = some d_list) (hB : T (.f "_law_base") = some d_base) (hw : T (.f "_law_walk") = some d_walk_3) (hi : T (.f "_law_is") = some d_is) (hat : T (.f "at") = some d_at) (hto : T (.f "things_of") = some d_things_of) (hre : T (.f "_law_refused") = some d_refused) (hl : T (.f "law") = some d_law_10) : Law T 60 := by
  intro ns hns
  have hm : ∀ (k : Int) (s : Sto), 0 ≤ k → k < 2 ^ 60 → runT T 59 (.f "_law_mixed") [.scr ns, .int k] s = .ok (.int (mx ns k)) s := fun k s a b => mxR_ok B.a hns a b (by decide) s
  have m0 := fun s => hm 0 s (by decide) (by decide)
  have m1 := fun s => hm 1 s (by decide) (by decide)
  have m2 := fun s => hm 2 s (by decide) (by decide)
  have m5 := emod_in (v := mx ns 0) (m := 5) (by decide)
  have hκ : 0 ≤ mx ns 0 % 5 ∧ mx ns 0 % 5 ≤ 4 := ⟨m5.1, by omega⟩
  rw [runT_go [some (.scr ns), none, none, none, none, none, none, none, none, none, none] hl rfl rfl]
  have e1 : evSs (runT T 59) (takeS 1 d_law_10.b) [some (.scr ns), none, none, none, none, none, none, none, none, none, none] sto0 = .nx [some (.scr ns), some (.int (mx ns 0 % 5)), none, none, none, none, none, none, none, none, none] sto0 := by
    simp [d_law_10, takeS, m0]
  rw [seg 1 e1]
  generalize mx ns 0 % 5 = κ at hκ
  have hA : ∀ s, runT T 59 (.f "_law_adding") [.int κ] s = .ok (way B.a κ).A s := fun s => run_adding B.a hκ.1
  obtain ⟨xs, hx, hxl, _, hxs⟩ := T_list B.a hL hns (k := 10) (κ := κ) (b := true) (by decide) (by decide) hκ.1 hκ.2
  have his := fun {t : Tr} (g : Good (way B.a κ) t) (hc : t.cnt ≤ 2000) (s : Sto) => T_is B.a hw hi hκ.1 (n := 59) g hc (by decide) s
  generalize hW : way B.a κ = W at *
  have hiw := run_mkWood hI (n := 58) (A := W.A)
  have z : sto0.nx = 0 := rfl
  rw [z] at hiw
  obtain ⟨t, g1, r1, s1, ft, tt, _⟩ := T_make_of (w := 0) (s := stoW W.A 0) (k0 := 0) (S := noS) B.e.p.n B.mb B.mo hx (by omega) g0_ok (by decide) (n := 59) (by decide)
  rw [← ws_g0] at r1
  have e2 : evSs (runT T 59) (takeS 4 (dropS 1 d_law_10.b)) [some (.scr ns), some (.int κ), none, none, none, none, none, none, none, none, none] sto0 = .nx [some (.scr ns), some (.int κ), some (.cell 0), some (.lst xs), some (.lst xs), some t.d, none, none, none, none, none] (ws W 0 (stoW W.A 0) g1) := by
    simp [d_law_10, takeS, dropS, hA, hiw, z, hxs, r1]
  rw [seg 4 e2]
  have ct := Tr.things_len t
  rw [tt] at ct
  have q1 := his ft.good (by omega)
  rw [tt] at q1
  have px : ∀ s, eqD s (.lst xs) (.lst xs) = some true := fun s => eqD_refl (th_pln hx) (by decide)
  obtain ⟨u, ys, g2, c2, r2, s2, fu, tu, ly⟩ := T_base (w := 0) (s := stoW W.A 0) (k0 := 0) (S := noS) B hB hns (k := 300) (by decide) (by decide) hx (by omega) s1.ok s1.ok.nn (n := 59) (by decide)
  have e3 : evSs (runT T 59) (takeS 2 (dropS 4 (dropS 1 d_law_10.b))) [some (.scr ns), some (.int κ), some (.cell 0), some (.lst xs), some (.lst xs), some t.d, none, none, none, none, none] (ws W 0 (stoW W.A 0) g1) =
      .nx [some (.scr ns), some (.int κ), some (.cell 0), some (.lst xs), some (.lst xs), some t.d, some u.d, some (.lst ys), none, none, none] (ws W 0 (stoW W.A 0) g2) := by
    simp [d_law_10, takeS, dropS, q1, px, r2, unpD, putAll]
  rw [seg 2 e3]
  have cu := Tr.things_len u
  rw [tu] at cu
  have h15 := fu.good.h15 (by omega)
  have t15 := ft.good.h15 (by omega)
  obtain ⟨s3, f, r3, k3, m3, f1, f2⟩ := R_thingsC hto fu.good (by omega) (by omega) (n := 59) (by decide) (ws W 0 (stoW W.A 0) g2)
  rw [tu] at m3
  have q2 := his fu.good (by omega)
  rw [tu] at q2
  have thy : ∀ z ∈ ys, W.Th z := by rw [← tu]; exact fu.good.th
  have py : ∀ s, eqD s (.lst ys) (.lst ys) = some true := fun s => eqD_refl (th_pln thy) (by decide)
  have pc := (eqD_cell (ys := ys) m3).trans (py s3)
  have il := isin_cellL m3
  have e4 : evSs (runT T 59) (takeS 2 (dropS 2 (dropS 4 (dropS 1 d_law_10.b)))) [some (.scr ns), some (.int κ), some (.cell 0), some (.lst xs), some (.lst xs), some t.d, some u.d, some (.lst ys), none, none, none] (ws W 0 (stoW W.A 0) g2) =
      .nx [some (.scr ns), some (.int κ), some (.cell 0), some (.lst xs), some (.lst xs), some t.d, some u.d, some (.lst ys), some (.cell f), none, none] s3 := by
    simp [d_law_10, takeS, dropS, r3, q2, il, pc]
  rw [seg 2 e4]
  have loop : ∀ (m j : Nat) (q : Option D), j + m = ys.length → ∃ q', forN (set1 9) (evSs (runT T 59) (.cons (.ifs (.cmp .ne (.call "at" (.cons (.var 6) (.cons (.var 9) .nil))) (.ix (.var 7) (.var 9))) (.cons (.ret (.bl false)) .nil) .nil) .nil)) ((List.range' j m).map fun (i : Nat) => D.int i)
      [some (.scr ns), some (.int κ), some (.cell 0), some (.lst xs), some (.lst xs), some t.d, some u.d, some (.lst ys), some (.cell f), q, none] s3 = .nx [some (.scr ns), some (.int κ), some (.cell 0), some (.lst xs), some (.lst xs), some t.d, some u.d, some (.lst ys), some (.cell f), q', none] s3 := by
    intro m
    induction m with
    | zero => exact fun j q _ => ⟨q, rfl⟩
    | succ m ih =>
      intro j q hj
      obtain ⟨q', r⟩ := ih (j + 1) (some (.int j)) (by omega)
      refine ⟨q', ?_⟩
      obtain ⟨x, hxj⟩ : ∃ x, ys[j]? = some x := ⟨_, List.getElem?_eq_getElem (by omega)⟩
      have ra := R_at B.e.p.n B.ask hat fu.good (j := j) (x := x) (by rw [tu]; exact hxj) (by omega) (n := 59) (by decide) s3
      have ex : eqD s3 x x = some true := eqD_refl (W.pl (thy x (List.mem_of_getElem? hxj)).1) (by decide)
      rw [List.range'_succ, List.map_cons, forN_d, ← r]
      simp only [set1, setE_s, setE_0, nx_then, evSs_cons, evSs_nil, evS_ifs, evE_cmp, evE_call, evEs_cons, evEs_nil, evE_var, getV_s, getV_0, bind_ok, ra, evE_ix, ix_lst, atI_nat, hxj, okO_some, cmp_ne, ex, Option.map_some, Bool.not_true, thenS_ok]
  obtain ⟨q9, run⟩ := loop ys.length 0 none (by omega)
  have e5 : evSs (runT T 59) (takeS 1 (dropS 2 (dropS 2 (dropS 4 (dropS 1 d_law_10.b))))) [some (.scr ns), some (.int κ), some (.cell 0), some (.lst xs), some (.lst xs), some t.d, some u.d, some (.lst ys), some (.cell f), none, none] s3 =
      .nx [some (.scr ns), some (.int κ), some (.cell 0), some (.lst xs), some (.lst xs), some t.d, some u.d, some (.lst ys), some (.cell f), q9, none] s3 := by
    have rg : rngL (ys.length : Int) = (List.range' 0 ys.length).map fun (i : Nat) => D.int i := by
      rw [← List.range_eq_range']; rfl
    have i62 : -(2 ^ 62) ≤ (ys.length : Int) ∧ (ys.length : Int) < 2 ^ 62 := ⟨by omega, by omega⟩
    have ew : evW (runT T 59) (.rng (.blt .len (.cons (.var 7) .nil))) [some (.scr ns), some (.int κ), some (.cell 0), some (.lst xs), some (.lst xs), some t.d, some u.d, some (.lst ys), some (.cell f), none, none] s3 = .ok (rngL (ys.length : Int)) s3 := by
      have ei : evE (runT T 59) (.blt .len (.cons (.var 7) .nil)) [some (.scr ns), some (.int κ), some (.cell 0), some (.lst xs), some (.lst xs), some t.d, some u.d, some (.lst ys), some (.cell f), none, none] s3 = .ok (.int (ys.length : Int)) s3 := by
        simp only [evE_blt, evEs_cons, evEs_nil, evE_var, getV_s, getV_0, bind_ok, blt_len_lst]
      rw [evW_rng, ei, bind_ok]
      exact if_pos i62
    simp only [d_law_10, takeS, dropS, evSs_cons, evSs_nil, evS_for1]
    rw [ew, thenS_ok, rg, run]
    rfl
  rw [seg 1 e5]
  have fl : ys.length < 16777216 := by omega
  have e6 : evSs (runT T 59) (takeS 1 (dropS 1 (dropS 2 (dropS 2 (dropS 4 (dropS 1 d_law_10.b)))))) [some (.scr ns), some (.int κ), some (.cell 0), some (.lst xs), some (.lst xs), some t.d, some u.d, some (.lst ys), some (.cell f), q9, none] s3 =
      .nx [some (.scr ns), some (.int κ), some (.cell 0), some (.lst xs), some (.lst xs), some t.d, some u.d, some (.lst ys), some (.cell f), q9, none] (s3.set f (.lst (ys ++ [.int 1]))) := by
    simp [d_law_10, takeS, dropS, isLstC, appD, m3, fl]
  rw [seg 1 e6]
  generalize s3.set f (.lst (ys ++ [.int 1])) = s4
  have i1 := emod_in (v := mx ns 1) (m := 10 ^ 60) (by decide)
  have i2 := emod_in (v := mx ns 2) (m := 3) (by decide)
  have rf1 := run_refused10 B.e.p.n B.ask hat hre fu.good (p := (ys.length : Int) + mx ns 1 % 10 ^ 60) (.inr (by omega)) (n := 59) (by decide) s4
  have rf2 := run_refused10 B.e.p.n B.ask hat hre fu.good (p := -1 - mx ns 2 % 3) (.inl (by omega)) (n := 59) (by decide) s4
  have e7 : evSs (runT T 59) (takeS 2 (dropS 1 (dropS 1 (dropS 2 (dropS 2 (dropS 4 (dropS 1 d_law_10.b))))))) [some (.scr ns), some (.int κ), some (.cell 0), some (.lst xs), some (.lst xs), some t.d, some u.d, some (.lst ys), some (.cell f), q9, none] s4 =
      .nx [some (.scr ns), some (.int κ), some (.cell 0), some (.lst xs), some (.lst xs), some t.d, some u.d, some (.lst ys), some (.cell f), q9, some (.int ((ys.length : Int) + mx ns 1 % 10 ^ 60))] s4 := by
    have ep : ∀ s, binD .pow (.int 10) (.int 60) s = .ok (.int (10 ^ 60)) s := fun s => rfl
    have e60 : (0 : Int) < 10 ^ 60 := by decide
    generalize (10 : Int) ^ 60 = K at *
    simp only [d_law_10, takeS, dropS, evSs_cons, evSs_nil, evS_asg, evE_bin, evE_blt, evEs_cons, evEs_nil, evE_var, getV_s, getV_0, bind_ok, blt_len_lst, evE_call, evE_int, m1, m2, ep, bin_mod, if_pos e60, bin_add, thenS_ok, setE_s, setE_0, nx_then, evS_ifs, evE_orr, evOr_more, evOr_one, evE_nt, rf1, Bool.not_true, evE_neg, bin_sub, if_pos (show (0 : Int) < 3 by decide), rf2]
  rw [seg 2 e7]
  obtain ⟨s5, f5, r5, _, m5', _, _⟩ := R_thingsC hto fu.good (by omega) (by omega) (n := 59) (by decide) s4
  obtain ⟨s6, f6, r6, _, m6, _, _⟩ := R_thingsC hto (Good.nil (W := W)) (by decide) (by decide) (n := 59) (by decide) s5
  obtain ⟨s7, f7, r7, _, m7, _, _⟩ := R_thingsC hto ft.good (by omega) (by omega) (n := 59) (by decide) s6
  rw [tu] at m5'
  rw [tt] at m7
  have p5 := (eqD_cell (ys := ys) m5').trans (py s5)
  have p6 : eqD s6 (.cell f6) (.lst []) = some true := (eqD_cell (ys := []) m6).trans (eqD_refl (n := 4) (pln_lst (n := 3) fun z hz => by cases hz) (by decide))
  have p7 := (eqD_cell (ys := xs) m7).trans (px s7)
  have r6 : runT T 59 (.f "things_of") [.non] s5 = .ok (.cell f6) s6 := r6
  refine ⟨s7, ?_⟩
  have l0 : (0 : Nat) ≤ sizeLine := Nat.zero_le _
  simp only [d_law_10, dropS, evSs_cons, evSs_nil, evS_ret, evE_an, evAnd_more, evAnd_one, evE_cmp, evE_call, evEs_cons, evEs_nil, evE_var, getV_s, getV_0, bind_ok, r5, cmp_eq, p5, Option.map_some, okO_some, evE_non, r6, evE_lst, List.length_nil, if_pos l0, p6, r7, p7, thenS_ok, rt_then, endS_rt]
end MP
/-! S2: shelves (some theorems are T5's, turned to another key or to a list that may change). -/
namespace MP
open PySem
variable {T : FK → Option Def} {W : Way T} {w : Nat} {s : Sto} {k0 : Int} {S : Tr → Prop} {g : Gh}

theorem blt_len_cell {p : Nat} {xs : List D} {s : Sto} (h : s.m p = some (.lst xs)) : bltD .len [.cell p] s = .ok (.int xs.length) s := by
  simp [bltD, seqOf, h]
theorem T_mbC {p : Nat} (H : HN T) (hp : T (.f "made_between") = some d_made_between) {xs : List D} (hx : ∀ z ∈ xs, W.Th z) (hl : xs.length ≤ 2000) (hpw : p ≠ w) (hsp : s.m p = some (.lst xs)) : ∀ (h : Nat) {g : Gh} {a b n : Nat}, GhOk g → k0 ≤ g.k → a ≤ b → b ≤ xs.length → b - a < 2 ^ h → h + 5 ≤ n →
    ∃ t g', runT T n (.f "made_between") [.cell w, .cell p, .int a, .int b] (ws W w s g) = .ok t.d (ws W w s g') ∧ Stp g g' (b - a) ∧ Fi W k0 S g' t ∧ t.things = (xs.drop a).take (b - a) ∧ Bits (b - a) t.hgt := by
  intro h
  induction h with
  | zero =>
    intro g a b n ok hk h1 h2 h3 hn
    obtain rfl : a = b := by simp at h3; omega
    obtain ⟨n, rfl⟩ : ∃ m, n = m + 1 := ⟨n - 1, by omega⟩
    refine ⟨.nil, g, ?_, .refl ok _, .nil, by simp [Tr.things], by simp [Bits, Tr.hgt]⟩
    rw [runT_at hp]
    simp [d_made_between, envOf, Tr.d]
  | succ h ih =>
    intro g a b n ok hk h1 h2 h3 hn
    by_cases e : a = b
    · subst e
      exact ih ok hk h1 h2 (by rw [Nat.sub_self]; exact Nat.pow_pos (by decide)) (by omega)
    · obtain ⟨n, rfl⟩ : ∃ m, n = m + 1 := ⟨n - 1, by omega⟩
      have p2 : 2 ^ (h + 1) = 2 * 2 ^ h := by rw [Nat.pow_succ]; omega
      obtain ⟨m, hm⟩ : ∃ m, m = (a + b) / 2 := ⟨_, rfl⟩
      obtain ⟨l, g1, e1, s1, fl, tl, bl⟩ := ih (n := n) (a := a) (b := m) ok hk (by omega) (by omega) (by omega) (by omega)
      have k1 := Int.le_trans hk s1.le
      obtain ⟨r, g2, e2, s2, fr, tr, br⟩ := ih (n := n) (a := m + 1) (b := b) s1.ok k1 (by omega) (by omega) (by omega) (by omega)
      have k2 := Int.le_trans k1 s2.le
      have cl := Tr.things_len l
      have cr := Tr.things_len r
      rw [tl, List.length_take, List.length_drop] at cl
      rw [tr, List.length_take, List.length_drop] at cr
      have hmx : m < xs.length := by omega
      have tx := hx xs[m] (List.getElem_mem hmx)
      have q1 : l.hgt ≤ r.hgt + 1 := bits_le (n := m - a) (by
        rw [Nat.pow_succ]
        have := br.1; omega) bl.2
      have q2 : r.hgt ≤ l.hgt := bits_le (n := b - (m + 1)) (by have := bl.1; omega) br.2
      obtain ⟨t, g3, e3, s3, ft, tt, ht⟩ := T_node (w := w) (s := s) H s2.ok k2 (fl.mono s2) fr tx (by omega) q1 (by omega) (n := n) (by omega)
      refine ⟨t, g3, ?_, ((s1.trans s2).trans s3).mono (by omega), ft, ?_, ?_, fun _ => ?_⟩
      · have c1 : ¬ (a : Int) = b := by omega
        have c2 : ((a : Int) + b) / 2 = (m : Int) := by omega
        have c3 : (m : Int) + 1 = ((m + 1 : Nat) : Int) := by omega
        have c4 : ∀ g : Gh, ixD (.cell p) (.int (m : Int)) (ws W w s g) = .ok xs[m] (ws W w s g) := fun g => by rw [ix_cell ((ws_ne hpw).trans hsp), ix_lst, atI_nat, List.getElem?_eq_getElem hmx]; rfl
        rw [← c3] at e2
        rw [runT_at hp]
        simp [d_made_between, envOf, c1, c2, e1, e2, c4, e3]
      · rw [tt, tl, tr]
        have e5 : b - a = (m - a) + (1 + (b - (m + 1))) := by omega
        rw [e5, List.take_add, List.drop_drop, show a + (m - a) = m by omega, List.drop_eq_getElem_cons hmx, Nat.add_comm 1, List.take_succ_cons]
      · have := bl.1
        rw [ht, Nat.max_eq_left q2, Nat.add_comm, Nat.pow_succ]; omega
      · rw [ht, Nat.max_eq_left q2, Nat.add_comm, Nat.add_sub_cancel]
        rcases Nat.eq_zero_or_pos l.hgt with z | z
        · rw [z]; omega
        · have := bl.2 (by omega)
          obtain ⟨q, hq⟩ : ∃ q, l.hgt = q + 1 := ⟨l.hgt - 1, by omega⟩
          rw [hq] at this ⊢
          rw [Nat.pow_succ]
          simp at this; omega
theorem T_make_ofC {p : Nat} (H : HN T) (hb : T (.f "made_between") = some d_made_between) (hp : T (.f "make_of") = some d_make_of) {xs : List D} (hx : ∀ z ∈ xs, W.Th z) (hl : xs.length ≤ 2000) (hpw : p ≠ w) (hsp : s.m p = some (.lst xs)) (ok : GhOk g) (hk : k0 ≤ g.k) {n : Nat} (hn : 17 ≤ n) :
    ∃ t g', runT T n (.f "make_of") [.cell w, .cell p] (ws W w s g) = .ok t.d (ws W w s g') ∧ Stp g g' xs.length ∧ Fi W k0 S g' t ∧ t.things = xs ∧ Bits xs.length t.hgt := by
  obtain ⟨n, rfl⟩ : ∃ m, n = m + 1 := ⟨n - 1, by omega⟩
  have p11 : 2 ^ 11 = 2048 := by decide
  obtain ⟨t, g1, e1, s1, ft, tt, bt⟩ := T_mbC (w := w) (s := s) H hb hx hl hpw hsp 11 (n := n) (a := 0) (b := xs.length) ok hk (Nat.zero_le _) (Nat.le_refl _) (by omega) (by omega)
  refine ⟨t, g1, ?_, s1, ft, by rw [tt]; simp, bt⟩
  have c : ¬ (2000 : Int) < xs.length := by omega
  rw [runT_at hp]
  have e1' : runT T n (.f "made_between") [.cell w, .cell p, .int 0, .int (xs.length : Int)] (ws W w s g) = .ok t.d (ws W w s g1) := e1
  have bl : ∀ g : Gh, bltD .len [.cell p] (ws W w s g) = .ok (.int xs.length) (ws W w s g) := fun g => blt_len_cell ((ws_ne hpw).trans hsp)
  simp [d_make_of, envOf, c, e1', bl]
theorem R_put_rows (H : HT2 T) (ha : T (.f "ask_place") = some d_ask_place) (hi : T (.f "put_in") = some d_put_in) (hp : T (.f "put_rows") = some d_put) {t : Tr} {x : D} {j : Nat} (ok : GhOk g) (hk : k0 ≤ g.k) (ft : Fi W k0 S g t) (hx : W.Th x) (hc : t.cnt + 1 ≤ 2000) (hj : j ≤ t.cnt) {n : Nat} (hn : t.hgt + 9 ≤ n) :
    ∃ u g', runT T n (.f "put_rows") [.cell w, t.d, .int j, x] (ws W w s g) = .ok u.d (ws W w s g') ∧ Stp g g' (9 * t.hgt + 1) ∧ Fi W k0 S g' u ∧ u.things = t.things.take j ++ x :: t.things.drop j ∧ t.hgt ≤ u.hgt ∧ u.hgt ≤ t.hgt + 1 := by
  obtain ⟨n, rfl⟩ : ∃ m, n = m + 1 := ⟨n - 1, by omega⟩
  obtain ⟨u, g1, e1, r⟩ := T_put_in (w := w) (s := s) H hi t.hgt (n := n) (j := j) (Nat.le_refl _) ok hk ft hx hc hj (by omega)
  refine ⟨u, g1, ?_, r⟩
  have z := cntR H.p.n ft.good (n := n) (by omega)
  have a := ask_ok ha (p := j) (a := 0) (b := t.cnt) (by omega) (by omega) (n := n) (by omega)
  have c : ¬ (t.cnt : Int) = 2000 := by omega
  rw [runT_at hp]
  simp [d_put, envOf, z, a, c, e1]
theorem R_out_rows (H : HT2 T) (ha : T (.f "ask_place") = some d_ask_place) (hw : T (.f "without_last") = some d_without_last) (hb : T (.f "both") = some d_both) (hi : T (.f "taken_out") = some d_taken_out) (hp : T (.f "out_rows") = some d_out) {t : Tr} {j : Nat} (ok : GhOk g) (hk : k0 ≤ g.k) (ft : Fi W k0 S g t) (hc : t.cnt ≤ 2000) (hj : j < t.cnt) {n : Nat} (hn : t.hgt + 13 ≤ n) :
    ∃ u g', runT T n (.f "out_rows") [.cell w, t.d, .int j] (ws W w s g) = .ok u.d (ws W w s g') ∧ Stp g g' (9 * t.hgt + 12) ∧ Fi W k0 S g' u ∧ u.things = t.things.take j ++ t.things.drop (j + 1) ∧ t.hgt ≤ u.hgt + 1 ∧ u.hgt ≤ t.hgt := by
  obtain ⟨n, rfl⟩ : ∃ m, n = m + 1 := ⟨n - 1, by omega⟩
  obtain ⟨u, g1, e1, r⟩ := T_out (w := w) (s := s) H hw hb hi t.hgt (n := n) (j := j) (Nat.le_refl _) ok hk ft hc hj (by omega)
  refine ⟨u, g1, ?_, r⟩
  have z := cntR H.p.n ft.good (n := n) (by omega)
  have a := ask_ok ha (p := j) (a := 0) (b := t.cnt - 1) (by omega) (by omega) (n := n) (by omega)
  rw [runT_at hp]
  simp [d_out, envOf, z, a, e1]
theorem R_laid_rows (H : HT2 T) (hw : T (.f "without_last") = some d_without_last) (hb : T (.f "both") = some d_both) (hp : T (.f "laid_rows") = some d_laid) {a b : Tr} (ok : GhOk g) (hk : k0 ≤ g.k) (fa : Fi W k0 S g a) (fb : Fi W k0 S g b) (hc : a.cnt + b.cnt ≤ 2000) {n : Nat} (hn : max a.hgt b.hgt + 11 ≤ n) :
    ∃ u g', runT T n (.f "laid_rows") [.cell w, a.d, b.d] (ws W w s g) = .ok u.d (ws W w s g') ∧ Stp g g' (9 * a.hgt + 9 * (max a.hgt b.hgt - min (a.hgt - 1) b.hgt) + 1) ∧ Fi W k0 S g' u ∧ u.things = a.things ++ b.things ∧ u.hgt ≤ max a.hgt b.hgt + 1 := by
  obtain ⟨n, rfl⟩ : ∃ m, n = m + 1 := ⟨n - 1, by omega⟩
  obtain ⟨u, g1, e1, r1, r2, r3, r4, r5, _⟩ := T_both (w := w) (s := s) H hw hb (max a.hgt b.hgt) (n := n) (by omega) (by omega) ok hk fa fb hc (by omega)
  refine ⟨u, g1, ?_, r1, r2, r3, r5⟩
  have z := cntR H.p.n fa.good (n := n) (by omega)
  have z2 := cntR H.p.n fb.good (n := n) (by omega)
  have c : ¬ (2000 : Int) < (a.cnt : Int) + b.cnt := by omega
  rw [runT_at hp]
  simp [d_laid, envOf, z, z2, c, e1]
theorem R_cut_rows (H : HT2 T) (ha : T (.f "ask_place") = some d_ask_place) (hi : T (.f "cut_at") = some d_cut_at) (hp : T (.f "cut_rows") = some d_cut) {t : Tr} {j : Nat} (ok : GhOk g) (hk : k0 ≤ g.k) (ft : Fi W k0 S g t) (hc : t.cnt ≤ 2000) (hj : j ≤ t.cnt) {n : Nat} (hn : 2 * t.hgt + 13 ≤ n) :
    ∃ a b g', runT T n (.f "cut_rows") [.cell w, t.d, .int j] (ws W w s g) = .ok (.tup [a.d, b.d]) (ws W w s g') ∧ Stp g g' (9 * (a.hgt + b.hgt) + 12 * t.hgt) ∧ Fi W k0 S g' a ∧ Fi W k0 S g' b ∧ a.things = t.things.take j ∧ b.things = t.things.drop j ∧ a.hgt ≤ t.hgt ∧ b.hgt ≤ t.hgt := by
  obtain ⟨n, rfl⟩ : ∃ m, n = m + 1 := ⟨n - 1, by omega⟩
  obtain ⟨a, b, g1, e1, r⟩ := T_cut (w := w) (s := s) H hi t.hgt (n := n) (j := j) (Nat.le_refl _) ok hk ft hc hj (by omega)
  refine ⟨a, b, g1, ?_, r⟩
  have z := cntR H.p.n ft.good (n := n) (by omega)
  have q := ask_ok ha (p := j) (a := 0) (b := t.cnt) (by omega) (by omega) (n := n) (by omega)
  rw [runT_at hp]
  simp [d_cut, envOf, z, q, e1]
/-! ### a shelf -/
def shC (w : Nat) (t : D) (pc : Nat) : Cell := .ins "Shelf" [("wood", .cell w), ("now", t), ("past", .cell pc)]
def shP (s : Sto) (w sh pc : Nat) (m : D) (ds : List D) : Sto := (s.set sh (shC w m pc)).set pc (.lst ds)
structure ShAt (s : Sto) (w sh pc : Nat) (t : Tr) (ds : List D) : Prop where
  hs : s.m sh = some (shC w t.d pc)
  hp : s.m pc = some (.lst ds)
  ne : sh ≠ pc
  nw : sh ≠ w
  pw : pc ≠ w
theorem shP_ne {i sh pc : Nat} {m : D} {ds : List D} (h1 : i ≠ sh) (h2 : i ≠ pc) : (shP s w sh pc m ds).m i = s.m i := by
  unfold shP; rw [set_ne h2, set_ne h1]
theorem shP_nx {sh pc : Nat} {m : D} {ds : List D} : (shP s w sh pc m ds).nx = s.nx := rfl
theorem ShAt.shP {sh pc : Nat} {t u : Tr} {ds es : List D} (a : ShAt s w sh pc t ds) : ShAt (shP s w sh pc u.d es) w sh pc u es :=
  ⟨by unfold MP.shP; rw [set_ne a.ne]; simp [Sto.set], by simp [MP.shP, Sto.set], a.ne, a.nw, a.pw⟩
theorem ws_out {i : Nat} {c : Cell} (h : i ≠ w) : (ws W w s g).set i c = ws W w (s.set i c) g := by
  unfold ws Sto.set
  congr
  funext j
  by_cases h1 : j = i
  · subst h1; simp [h]
  · simp [h1]
theorem ws_shP {sh pc : Nat} {m : D} {ds : List D} (h1 : sh ≠ w) (h2 : pc ≠ w) : shP (ws W w s g) w sh pc m ds = ws W w (shP s w sh pc m ds) g := by
  unfold shP; rw [ws_out h1, ws_out h2]
theorem run_hold (hh : T (.m "Shelf" "hold") = some d_Shelf_hold) {n sh pc : Nat} {m0 m dd : D} {ds : List D} (hs : s.m sh = some (shC w m0 pc)) (hp : s.m pc = some (.lst ds)) (ne : sh ≠ pc) (hd : isNon dd = false) (hc : isCell dd = false) (hl : ds.length < 16777216) :
    runT T (n + 1) (.m "Shelf" "hold") [.cell sh, m, dd] s = .ok .non (shP s w sh pc m (ds ++ [dd])) := by
  have hs' : s.m sh = some (.ins "Shelf" [("wood", .cell w), ("now", m0), ("past", .cell pc)]) := hs
  have e1 : sfldD (.cell sh) "now" m s = some (s.set sh (shC w m pc)) := by
    simp [sfldD, hs', putF, shC]
  have e2 : (s.set sh (shC w m pc)).m sh = some (.ins "Shelf" [("wood", .cell w), ("now", m), ("past", .cell pc)]) := by simp [shC]
  have e3 : (s.set sh (shC w m pc)).m pc = some (.lst ds) := by rw [set_ne (Ne.symm ne)]; exact hp
  have e3' : (s.set sh (.ins "Shelf" [("wood", .cell w), ("now", m), ("past", .cell pc)])).m pc = some (.lst ds) := e3
  rw [runT_at hh]
  simp [d_Shelf_hold, envOf, hs', putF, hd, hc, fldD, e2, isLstC, appD, e3', hl, shP, shC]
end MP
/-! S3: cells, drawn numbers and things of the laws about shelves. -/
namespace MP
open PySem
variable {T : FK → Option Def}

theorem run_cell3 (h : T (.f "_law_cell") = some d_cell_3) {ns : List Int} (hns : ns.length ≤ 63) {k : Int} (h0 : 0 ≤ k) (h1 : k < 2 ^ 40) : ∃ v : Int, ∀ (n : Nat) (s : Sto), 1 ≤ n → runT T n (.f "_law_cell") [.scr ns, .int k] s = .ok (.int v) s := by
  by_cases hk : k < (ns.length : Int)
  · have e : L2.atI (ns.map D.int) k = some (.int (ns.getD k.toNat 0)) := by
      rw [atI_nn h0, List.getElem?_map, List.getD_eq_getElem?_getD, List.getElem?_eq_getElem (by omega)]; rfl
    refine ⟨ns.getD k.toNat 0, fun n s hn => ?_⟩
    obtain ⟨n, rfl⟩ : ∃ m, n = m + 1 := ⟨n - 1, by omega⟩
    rw [runT_at h]
    simp [d_cell_3, envOf, hk, e]
  · have m1 : mulOk 5 k := mulL (by decide)
    have p9 : (0 : Int) < 2147483563 := by decide
    have dk := decide_eq_false hk
    by_cases hl : 0 < ns.length
    · have hl' : (0 : Int) < (ns.length : Int) := by omega
      have i0 := emod_in (v := k * 3) hl'
      have e : L2.atI (ns.map D.int) (k * 3 % (ns.length : Int)) = some (.int (ns.getD (k * 3 % (ns.length : Int)).toNat 0)) := by
        rw [atI_nn i0.1, List.getElem?_map, List.getD_eq_getElem?_getD, List.getElem?_eq_getElem (by omega)]; rfl
      have m2 : mulOk k 3 := mulR (by decide)
      have m3 : ∀ x, mulOk x 40507 := fun x => mulR (by decide)
      have i1 := emod_in (v := ns.getD (k * 3 % (ns.length : Int)).toNat 0) (m := 1000000007) (by decide)
      generalize hq : ns.getD (k * 3 % (ns.length : Int)).toNat 0 % 1000000007 = q at *
      have m4 : mulOk (5 * k + 29 + q * 40507) (5 * k + 29 + q * 40507) := mulL (by omega)
      refine ⟨(5 * k + 29 + q * 40507) * (5 * k + 29 + q * 40507) % 2147483563 + k, fun n s hn => ?_⟩
      obtain ⟨n, rfl⟩ : ∃ m, n = m + 1 := ⟨n - 1, by omega⟩
      have dl := decide_eq_true hl'
      rw [runT_go [some (.scr ns), some (.int k), none] h rfl rfl]
      simp only [d_cell_3, evSs_cons, evSs_nil, evS_ifs, evE_cmp, evE_blt, evEs_cons, evEs_nil, evE_var, evE_int, getV_s, getV_0, bind_ok, blt_len_scr, cmp_lt, dk, thenS_ok, nx_then, evS_asg, evE_bin, bin_mul, if_pos m1, if_pos m2, bin_add, setE_s, setE_0, cmp_gt, dl, evE_ix, bin_mod, if_pos hl', ix_scr, e, okO_some, if_pos (show (0 : Int) < 1000000007 by decide), hq, if_pos (m3 _), evS_ret, if_pos m4, if_pos p9, rt_then, endS_rt]
    · have hl' : ¬ (0 : Int) < (ns.length : Int) := by omega
      have m4 : mulOk (5 * k + 29) (5 * k + 29) := mulL (by omega)
      refine ⟨(5 * k + 29) * (5 * k + 29) % 2147483563 + k, fun n s hn => ?_⟩
      obtain ⟨n, rfl⟩ : ∃ m, n = m + 1 := ⟨n - 1, by omega⟩
      have dl := decide_eq_false hl'
      rw [runT_go [some (.scr ns), some (.int k), none] h rfl rfl]
      simp only [d_cell_3, evSs_cons, evSs_nil, evS_ifs, evE_cmp, evE_blt, evEs_cons, evEs_nil, evE_var, evE_int, getV_s, getV_0, bind_ok, blt_len_scr, cmp_lt, dk, thenS_ok, nx_then, evS_asg, evE_bin, bin_mul, if_pos m1, bin_add, setE_s, setE_0, cmp_gt, dl, evS_ret, if_pos m4, bin_mod, if_pos p9, rt_then, endS_rt]
def drawB : Ss := match dropS 2 d_drawn.b with | .cons (.for1 _ _ b) _ => b | _ => .nil
/-- numbers drawn one behind another -/
theorem T_drawn (h : T (.f "_law_drawn") = some d_drawn) {c : Int} {m : Nat} (hm : m ≤ 1000) {n : Nat} (hn : 1 ≤ n) : ∃ vs : List Int, vs.length = m ∧ (∀ v ∈ vs, 0 ≤ v ∧ v < 2 ^ 30) ∧ ∀ s : Sto, ∃ s', runT T n (.f "_law_drawn") [.int c, .int (m : Int)] s = .ok (.lst (vs.map D.int)) s' ∧ Kep s s' := by
  obtain ⟨n, rfl⟩ : ∃ m, n = m + 1 := ⟨n - 1, by omega⟩
  have i0 := emod_in (v := c) (m := 998244353) (by decide)
  have loop : ∀ (js : List Nat) (x : Int) (acc : List Int), (∀ j ∈ js, j < 2000) → (0 ≤ x ∧ x < 998244353) → (∀ v ∈ acc, 0 ≤ v ∧ v < 2 ^ 30) → acc.length + js.length ≤ 2000 → ∃ (x' : Int) (acc' : List Int), acc'.length = acc.length + js.length ∧ (∀ v ∈ acc', 0 ≤ v ∧ v < 2 ^ 30) ∧ ∀ (s : Sto) (f : Nat) (e0 e1 e4 : Option D), s.m f = some (.lst (acc.map D.int)) →
      ∃ e4', forN (set1 4) (evSs (runT T n) drawB) (js.map fun (p : Nat) => D.int p) [e0, e1, some (.int x), some (.cell f), e4] s = .nx [e0, e1, some (.int x'), some (.cell f), e4'] (s.set f (.lst (acc'.map D.int))) := by
    intro js
    induction js with
    | nil => exact fun x acc _ _ ha _ => ⟨x, acc, rfl, ha, fun s f e0 e1 e4 hs => ⟨e4, by
        have e : s.set f (.lst (acc.map D.int)) = s := by
          unfold Sto.set
          cases s with
          | mk nx m =>
            simp only [Sto.mk.injEq, true_and]
            funext j
            by_cases e1 : j = f
            · subst e1; simp; exact hs.symm
            · simp [e1]
        rw [e]; rfl⟩⟩
    | cons j js ih =>
      intro x acc hj hx ha hl
      simp only [List.length_cons] at hl
      have j0 := hj j (List.mem_cons_self ..)
      have i1 := emod_in (v := x * (x + 2 * (j : Int) + 91) + 1013 * (j : Int) + 7) (m := 998244353) (by decide)
      obtain ⟨x', acc', l1, l2, r⟩ := ih ((x * (x + 2 * (j : Int) + 91) + 1013 * (j : Int) + 7) % 998244353) (acc ++ [(x * (x + 2 * (j : Int) + 91) + 1013 * (j : Int) + 7) % 998244353 / 5]) (fun i hi => hj i (List.mem_cons_of_mem _ hi)) i1 (fun v hv => by
        rcases List.mem_append.mp hv with hv | hv
        · exact ha v hv
        · rw [List.mem_singleton.mp hv]; omega) (by rw [List.length_append]; simp; omega)
      refine ⟨x', acc', by rw [l1, List.length_append]; simp; omega, l2, fun s f e0 e1 e4 hs => ?_⟩
      have m1 : mulOk x (x + 2 * (j : Int) + 91) := mulL (by omega)
      have m2 : mulOk 2 (j : Int) := mulL (by decide)
      have m3 : mulOk 1013 (j : Int) := mulL (by decide)
      obtain ⟨e4', rr⟩ := r (s.set f (.lst ((acc ++ [(x * (x + 2 * (j : Int) + 91) + 1013 * (j : Int) + 7) % 998244353 / 5]).map D.int))) f e0 e1 (some (.int (j : Int))) (by simp)
      refine ⟨e4', ?_⟩
      have fd : ∀ i s, binD .fdiv (.int i) (.int 5) s = .ok (.int (i / 5)) s := fun i s => bin_fdiv_lit (by decide) (by decide)
      have al : (acc.map D.int).length < sizeLine := by show _ < 16777216; rw [List.length_map]; omega
      rw [List.map_cons, forN_d]
      generalize hy : (x * (x + 2 * (j : Int) + 91) + 1013 * (j : Int) + 7) % 998244353 = y at *
      have ap : appD (.cell f) (.int (y / 5)) s = some (s.set f (.lst ((acc ++ [y / 5]).map D.int))) := by
        unfold appD
        simp only [hs]
        rw [if_pos al, List.map_append]; rfl
      have il : isLstC (.cell f) s = true := by unfold isLstC; simp only [hs]
      rw [set_set] at rr
      simp only [set1, setE_s, setE_0, nx_then, drawB, d_drawn, dropS, evSs_cons, evSs_nil, evS_asg, evE_bin, evE_var, evE_int, getV_s, getV_0, bind_ok, bin_mul, if_pos m1, if_pos m2, if_pos m3, bin_add, bin_mod, if_pos (show (0 : Int) < 998244353 by decide), hy, thenS_ok, evS_app, il, if_true, fd, ap, optS_some]
      exact rr
  obtain ⟨x', acc', l1, l2, r⟩ := loop (List.range (m + 2)) (c % 998244353) [] (fun j hj => by have := List.mem_range.mp hj; omega) i0 (fun v hv => absurd hv List.not_mem_nil) (by rw [List.length_range]; simp; omega)
  rw [List.length_range] at l1
  simp at l1
  refine ⟨acc'.drop 2, by rw [List.length_drop]; omega, fun v hv => l2 v (List.mem_of_mem_drop hv), fun s => ?_⟩
  have hs : (s.new (.lst [])).m s.nx = some (.lst (([] : List Int).map D.int)) := new_new
  obtain ⟨e4', rr⟩ := r (s.new (.lst [])) s.nx (some (.int c)) (some (.int (m : Int))) none hs
  refine ⟨(s.new (.lst [])).set s.nx (.lst (acc'.map D.int)), ?_, ⟨by show s.nx ≤ s.nx + 1; omega, fun i hi => by
    rw [set_ne (by omega)]
    show (if i = s.nx then _ else s.m i) = _
    rw [if_neg (by omega)]⟩⟩
  have rg : rngL ((m : Int) + 2) = (List.range (m + 2)).map fun (p : Nat) => D.int p := by
    unfold rngL
    rw [show ((m : Int) + 2).toNat = m + 2 by omega]
  have i62 : -(2 : Int) ^ 62 ≤ (m : Int) + 2 ∧ (m : Int) + 2 < 2 ^ 62 := ⟨by omega, by omega⟩
  rw [runT_go [some (.int c), some (.int (m : Int)), none, none, none] h rfl rfl]
  have e1 : evSs (runT T n) (takeS 2 d_drawn.b) [some (.int c), some (.int (m : Int)), none, none, none] s = .nx [some (.int c), some (.int (m : Int)), some (.int (c % 998244353)), some (.cell s.nx), none] (s.new (.lst [])) := by
    simp [d_drawn, takeS]
  rw [seg 2 e1]
  have ew : evW (runT T n) (.rng (.bin .add (.var 1) (.int 2))) [some (.int c), some (.int (m : Int)), some (.int (c % 998244353)), some (.cell s.nx), none] (s.new (.lst [])) = .ok (rngL ((m : Int) + 2)) (s.new (.lst [])) := by
    have ei : evE (runT T n) (.bin .add (.var 1) (.int 2)) [some (.int c), some (.int (m : Int)), some (.int (c % 998244353)), some (.cell s.nx), none] (s.new (.lst [])) = .ok (.int ((m : Int) + 2)) (s.new (.lst [])) := by
      simp only [evE_bin, evE_var, evE_int, getV_s, getV_0, bind_ok, bin_add]
    rw [evW_rng, ei, bind_ok]
    exact if_pos i62
  show endS (evSs (runT T n) (.cons (.for1 4 (.rng (.bin .add (.var 1) (.int 2))) drawB) (.cons (.ret (.sl (.var 3) (.some (.int 2)) .none)) .nil)) _ _) = _
  rw [evSs_cons, evS_for1, ew, thenS_ok, rg, rr, nx_then]
  have sq : seqOf ((s.new (.lst [])).set s.nx (.lst (acc'.map D.int))) (.cell s.nx) = some (acc'.map D.int) := by
    simp [seqOf]
  have sl : slD (.cell s.nx) (some 2) none ((s.new (.lst [])).set s.nx (.lst (acc'.map D.int))) = .ok (.lst ((acc'.drop 2).map D.int)) ((s.new (.lst [])).set s.nx (.lst (acc'.map D.int))) := by
    unfold slD
    simp only [sq]
    have := cutD_from (xs := acc'.map D.int) (m := 2)
    rw [List.map_drop]
    exact congrArg (fun l => Res.ok (D.lst l) _) this
  simp only [evSs_cons, evSs_nil, evS_ret, evE_sl, evEo_some, evEo_none, evE_var, evE_int, getV_s, getV_0, bind_ok, sl, thenS_ok, rt_then, endS_rt]
end MP
/-! S4: the things of the laws about shelves; a shelf's deeds. -/
namespace MP
open PySem
variable {T : FK → Option Def} {W : Way T} {w : Nat} {s : Sto} {k0 : Int} {S : Tr → Prop} {g : Gh}

theorem letter26 {v : Int} (h0 : 0 ≤ v) (h1 : v < 26) : ∃ c : Nat, ∀ s : Sto, ixD (.str "abcdefghijklmnopqrstuvwxyz") (.int v) s = .ok (.str ⟨#[c]⟩) s := by
  have hl : (Str.ofString "abcdefghijklmnopqrstuvwxyz").cps.toList.length = 26 := by decide +kernel
  have hz : (Str.ofString "abcdefghijklmnopqrstuvwxyz").length ≤ sizeLine := by
    show (Str.ofString "abcdefghijklmnopqrstuvwxyz").length ≤ 16777216
    decide +kernel
  refine ⟨(Str.ofString "abcdefghijklmnopqrstuvwxyz").cps.toList[v.toNat]'(by omega), fun s => ?_⟩
  show (if (Str.ofString "abcdefghijklmnopqrstuvwxyz").length ≤ sizeLine then okO ((L2.atI (Str.ofString "abcdefghijklmnopqrstuvwxyz").cps.toList v).map fun c => D.str ⟨#[c]⟩) s else .bad) = _
  rw [if_pos hz, atI_nn h0, List.getElem?_eq_getElem (by omega)]
  rfl
theorem repS_len (n : Nat) (c : Nat) : (repS n ⟨#[c]⟩).length = n := by
  unfold repS
  split
  · rename_i h; subst h; rfl
  · show ((List.replicate n #[c]).foldl (· ++ ·) #[]).size = n
    rw [L2.size_times]; simp
theorem T_thing7 (h : T (.f "_law_thing") = some d_thing_7) {v κ : Int} (h0 : 0 ≤ v) (h1 : v < 2 ^ 40) (hκ : κ = 0 ∨ κ = 1) : ∃ x, (wayN T).Th x ∧ ∀ (n : Nat) (s : Sto), 1 ≤ n → runT T n (.f "_law_thing") [.int v, .int κ] s = .ok x s := by
  have fd26 : ∀ s, binD .fdiv (.int v) (.int 26) s = .ok (.int (v / 26)) s := fun s => bin_fdiv_lit (by decide) (by decide)
  have fd7 : ∀ s, binD .fdiv (.int v) (.int 7) s = .ok (.int (v / 7)) s := fun s => bin_fdiv_lit (by decide) (by decide)
  rcases hκ with rfl | rfl
  · have i1 := emod_in (v := v) (m := 26) (by decide)
    have i2 := emod_in (v := v / 26) (m := 3) (by decide)
    obtain ⟨c, hc⟩ := letter26 i1.1 i1.2
    have ok : 1 ≤ 1 + v / 26 % 3 ∧ 1 + v / 26 % 3 ≤ 1000 ∧ 1 ≤ (⟨#[c]⟩ : Str).length ∧ (⟨#[c]⟩ : Str).length ≤ 1000 := by
      have : (⟨#[c]⟩ : Str).length = 1 := rfl
      omega
    refine ⟨.str (repS (1 + v / 26 % 3).toNat ⟨#[c]⟩), ⟨.inr ⟨_, rfl⟩, ?_⟩, fun n s hn => ?_⟩
    · show (repS (1 + v / 26 % 3).toNat ⟨#[c]⟩).length ≤ 64
      rw [repS_len]; omega
    · obtain ⟨n, rfl⟩ : ∃ m, n = m + 1 := ⟨n - 1, by omega⟩
      rw [runT_go [some (.int v), some (.int 0), none] h rfl rfl]
      simp only [d_thing_7, evSs_cons, evSs_nil, evS_ifs, evE_cmp, evE_var, evE_int, getV_s, getV_0, bind_ok, cmp_eq, eqD_int, decide_true, Option.map_some, okO_some, thenS_ok, evS_ret, evE_bin, evE_ix, evE_str, bin_mod, if_pos (show (0 : Int) < 26 by decide), hc, fd26, if_pos (show (0 : Int) < 3 by decide), bin_add, bin_muls, if_pos ok, rt_then, endS_rt]
  · have ep : ∀ s, binD .pow (.int 10) (.int 50) s = .ok (.int (10 ^ 50)) s := fun s => rfl
    have ep2 : ∀ s, binD .pow (.int 10) (.int 59) s = .ok (.int (10 ^ 59)) s := fun s => rfl
    have p1 : (0 : Int) < 2 * 10 ^ 59 + 1 := by decide
    have i7 := emod_in (v := v / 7) (m := 4) (by decide)
    generalize hA : (10 : Int) ^ 50 = A at ep
    generalize hB : (10 : Int) ^ 59 = B at ep2 p1
    have m1 : mulOk v A := mulL (by omega)
    have m2 : mulOk 2 B := mulL (by decide)
    have l4 : (4 : Nat) ≤ sizeLine := by show 4 ≤ 16777216; decide
    have fin : ∀ (y : Int), (∀ s, ixD (.lst [.int (v % 7 - 3), .int (v * A % (2 * B + 1) - B), .int v, .int 0]) (.int (v / 7 % 4)) s = .ok (.int y) s) → ∃ x, (wayN T).Th x ∧ ∀ (n : Nat) (s : Sto), 1 ≤ n → runT T n (.f "_law_thing") [.int v, .int 1] s = .ok x s := fun y hy => by
      refine ⟨.int y, ⟨.inl ⟨_, rfl⟩, Nat.zero_le _⟩, fun n s hn => ?_⟩
      obtain ⟨n, rfl⟩ : ∃ m, n = m + 1 := ⟨n - 1, by omega⟩
      rw [runT_go [some (.int v), some (.int 1), none] h rfl rfl]
      simp only [d_thing_7, evSs_cons, evSs_nil, evS_ifs, evE_cmp, evE_var, evE_int, getV_s, getV_0, bind_ok, cmp_eq, eqD_int, show decide ((1 : Int) = 0) = false from rfl, decide_true, Option.map_some, okO_some, thenS_ok, nx_then, evS_asg, evE_bin, ep, ep2, bin_mul, if_pos m1, if_pos m2, bin_add, bin_mod, if_pos p1, bin_sub, setE_s, setE_0, evS_ret, evE_ix, evE_lst, evEs_cons, evEs_nil, if_pos (show (0 : Int) < 7 by decide), List.length_cons, List.length_nil, if_pos l4, fd7, if_pos (show (0 : Int) < 4 by decide), hy, rt_then, endS_rt]
    rcases (by omega : v / 7 % 4 = 0 ∨ v / 7 % 4 = 1 ∨ v / 7 % 4 = 2 ∨ v / 7 % 4 = 3) with q | q | q | q
    · exact fin _ fun s => by rw [q]; rfl
    · exact fin _ fun s => by rw [q]; rfl
    · exact fin _ fun s => by rw [q]; rfl
    · exact fin _ fun s => by rw [q]; rfl
structure HSh (T : FK → Option Def) : Prop where
  e : HT2 T
  ask : T (.f "ask_place") = some d_ask_place
  stretch : T (.f "ask_stretch") = some d_ask_stretch
  cutat : T (.f "cut_at") = some d_cut_at
  wl : T (.f "without_last") = some d_without_last
  both : T (.f "both") = some d_both
  tp : T (.f "turned_part") = some d_turned_part
  mb : T (.f "made_between") = some d_made_between
  mo : T (.f "make_of") = some d_make_of
  puti : T (.f "put_in") = some d_put_in
  putr : T (.f "put_rows") = some d_put
  taken : T (.f "taken_out") = some d_taken_out
  outr : T (.f "out_rows") = some d_out
  swapi : T (.f "swapped_in") = some d_swapped_in
  swapped : T (.f "swapped") = some d_swapped
  at_ : T (.f "at") = some d_at
  init : T (.m "Shelf" "__init__") = some d_Shelf_init
  make : T (.m "Shelf" "make") = some d_Shelf_make
  things : T (.m "Shelf" "things") = some d_Shelf_things
  hold : T (.m "Shelf" "hold") = some d_Shelf_hold
  put : T (.m "Shelf" "put") = some d_Shelf_put
  out : T (.m "Shelf" "out") = some d_Shelf_out
  swap : T (.m "Shelf" "swap") = some d_Shelf_swap
  turned : T (.m "Shelf" "turned") = some d_Shelf_turned
section
variable {sh pc : Nat} {t : Tr} {ds : List D}
theorem sh_ws (a : ShAt s w sh pc t ds) (g : Gh) : (ws W w s g).m sh = some (.ins "Shelf" [("wood", .cell w), ("now", t.d), ("past", .cell pc)]) := (ws_ne a.nw).trans a.hs
theorem hold_ws (H : HSh T) (a : ShAt s w sh pc t ds) {n : Nat} {m dd : D} {g : Gh} (hd : isNon dd = false) (hc : isCell dd = false) (hl : ds.length < 16777216) : runT T (n + 1) (.m "Shelf" "hold") [.cell sh, m, dd] (ws W w s g) = .ok .non (ws W w (shP s w sh pc m (ds ++ [dd])) g) := by
  rw [← ws_shP a.nw a.pw]
  exact run_hold H.hold ((ws_ne a.nw).trans a.hs) ((ws_ne a.pw).trans a.hp) a.ne hd hc hl
theorem S_put (H : HSh T) (a : ShAt s w sh pc t ds) {x : D} {j : Nat} (ok : GhOk g) (hk : k0 ≤ g.k) (ft : Fi W k0 S g t) (hx : W.Th x) (hc : t.cnt + 1 ≤ 2000) (hj : j ≤ t.cnt) (hl : ds.length < 16777216) {n : Nat} (hn : 60 ≤ n) :
    ∃ u g' c, runT T n (.m "Shelf" "put") [.cell sh, .int j, x] (ws W w s g) = .ok .non (ws W w (shP s w sh pc u.d (ds ++ [.tup [.str "put", .int j]])) g') ∧ Stp g g' c ∧ Fi W k0 S g' u ∧ u.things = t.things.take j ++ x :: t.things.drop j := by
  obtain ⟨n, rfl⟩ : ∃ m, n = m + 2 := ⟨n - 2, by omega⟩
  have h15 := ft.good.h15 (by omega)
  obtain ⟨u, g', r, st, fu, tu, _⟩ := R_put_rows (w := w) (s := s) H.e H.ask H.puti H.putr ok hk ft hx hc hj (n := n + 1) (by omega)
  have hd := hold_ws (W := W) H a (n := n) (m := u.d) (dd := .tup [.str "put", .int j]) (g := g') rfl rfl hl
  have q := sh_ws (W := W) a g
  refine ⟨u, g', _, ?_, st, fu, tu⟩
  rw [runT_at H.put]
  simp [d_Shelf_put, envOf, q, fldD, r, hd]
theorem S_swap (H : HSh T) (a : ShAt s w sh pc t ds) {x : D} {j : Nat} (ok : GhOk g) (hk : k0 ≤ g.k) (ft : Fi W k0 S g t) (hx : W.Th x) (hc : t.cnt ≤ 2000) (hj : j < t.cnt) (hl : ds.length < 16777216) {n : Nat} (hn : 60 ≤ n) :
    ∃ u g' c, runT T n (.m "Shelf" "swap") [.cell sh, .int j, x] (ws W w s g) = .ok .non (ws W w (shP s w sh pc u.d (ds ++ [.tup [.str "swap", .int j]])) g') ∧ Stp g g' c ∧ Fi W k0 S g' u ∧ u.things = t.things.take j ++ x :: t.things.drop (j + 1) := by
  obtain ⟨n, rfl⟩ : ∃ m, n = m + 2 := ⟨n - 2, by omega⟩
  have h15 := ft.good.h15 (by omega)
  obtain ⟨u, g', r, st, fu, tu, _⟩ := R_swap (w := w) (s := s) H.e.p H.ask H.swapi H.swapped ok hk ft hx hc hj (n := n + 1) (by omega)
  have hd := hold_ws (W := W) H a (n := n) (m := u.d) (dd := .tup [.str "swap", .int j]) (g := g') rfl rfl hl
  have q := sh_ws (W := W) a g
  refine ⟨u, g', _, ?_, st, fu, tu⟩
  rw [runT_at H.swap]
  simp [d_Shelf_swap, envOf, q, fldD, r, hd]
theorem S_turned (H : HSh T) (a : ShAt s w sh pc t ds) {i j : Nat} (ok : GhOk g) (hk : k0 ≤ g.k) (ft : Fi W k0 S g t) (hc : t.cnt ≤ 2000) (hij : i ≤ j) (hj : j ≤ t.cnt) (hl : ds.length < 16777216) {n : Nat} (hn : 60 ≤ n) :
    ∃ u g' c, runT T n (.m "Shelf" "turned") [.cell sh, .int i, .int j] (ws W w s g) = .ok .non (ws W w (shP s w sh pc u.d (ds ++ [.tup [.str "turned", .int i, .int j]])) g') ∧ Stp g g' c ∧ Fi W k0 S g' u ∧ u.things = t.things.take i ++ ((t.things.take j).drop i).reverse ++ t.things.drop j := by
  obtain ⟨n, rfl⟩ : ∃ m, n = m + 2 := ⟨n - 2, by omega⟩
  have h15 := ft.good.h15 (by omega)
  obtain ⟨u, g', c, r, st, fu, tu, _⟩ := R_turn (w := w) (s := s) H.e H.ask H.stretch H.cutat H.wl H.both H.tp ok hk ft hc hij hj (n := n + 1) (by omega)
  have hd := hold_ws (W := W) H a (n := n) (m := u.d) (dd := .tup [.str "turned", .int i, .int j]) (g := g') rfl rfl hl
  have q := sh_ws (W := W) a g
  refine ⟨u, g', _, ?_, st, fu, tu⟩
  rw [runT_at H.turned]
  simp [d_Shelf_turned, envOf, q, fldD, r, hd]
theorem S_out (H : HSh T) (a : ShAt s w sh pc t ds) {x : D} {j : Nat} (ok : GhOk g) (hk : k0 ≤ g.k) (ft : Fi W k0 S g t) (hc : t.cnt ≤ 2000) (hx : t.things[j]? = some x) (hl : ds.length < 16777216) {n : Nat} (hn : 60 ≤ n) :
    ∃ u g' c, runT T n (.m "Shelf" "out") [.cell sh, .int j] (ws W w s g) = .ok x (ws W w (shP s w sh pc u.d (ds ++ [.tup [.str "out", .int j]])) g') ∧ Stp g g' c ∧ Fi W k0 S g' u ∧ u.things = t.things.take j ++ t.things.drop (j + 1) := by
  obtain ⟨n, rfl⟩ : ∃ m, n = m + 2 := ⟨n - 2, by omega⟩
  have h15 := ft.good.h15 (by omega)
  have hj : j < t.cnt := by rw [← Tr.things_len]; exact (List.getElem?_eq_some_iff.mp hx).1
  obtain ⟨u, g', r, st, fu, tu, _⟩ := R_out_rows (w := w) (s := s) H.e H.ask H.wl H.both H.taken H.outr ok hk ft hc hj (n := n + 1) (by omega)
  have ra := fun s => R_at H.e.p.n H.ask H.at_ ft.good hx (by omega) (n := n + 1) (by omega) s
  have hd := hold_ws (W := W) H a (n := n) (m := u.d) (dd := .tup [.str "out", .int j]) (g := g') rfl rfl hl
  have q := sh_ws (W := W) a g
  have q' := sh_ws (W := W) a g'
  refine ⟨u, g', _, ?_, st, fu, tu⟩
  rw [runT_at H.out]
  simp [d_Shelf_out, envOf, q, q', fldD, r, ra, hd]
theorem S_make (H : HSh T) (a : ShAt s w sh pc t ds) {n : Nat} (hn : 1 ≤ n) (g : Gh) : runT T n (.m "Shelf" "make") [.cell sh] (ws W w s g) = .ok t.d (ws W w s g) := by
  obtain ⟨n, rfl⟩ : ∃ m, n = m + 1 := ⟨n - 1, by omega⟩
  have q := sh_ws (W := W) a g
  rw [runT_at H.make]
  simp [d_Shelf_make, envOf, q, fldD]
theorem S_back (H : HSh T) (hb : T (.m "Shelf" "back") = some d_Shelf_back_3) (a : ShAt s w sh pc t ds) {u : Tr} (gu : Good W u) (hl : ds.length < 16777216) {n : Nat} (hn : 2 ≤ n) (g : Gh) :
    runT T n (.m "Shelf" "back") [.cell sh, u.d] (ws W w s g) = .ok .non (ws W w (shP s w sh pc u.d (ds ++ [.tup [.str "back", .int u.cnt]])) g) := by
  obtain ⟨n, rfl⟩ : ∃ m, n = m + 2 := ⟨n - 2, by omega⟩
  have z := cntR H.e.p.n gu (n := n + 1) (by omega)
  have hd := hold_ws (W := W) H a (n := n) (m := u.d) (dd := .tup [.str "back", .int u.cnt]) (g := g) rfl rfl hl
  have q := sh_ws (W := W) a g
  rw [runT_at hb]
  simp [d_Shelf_back_3, envOf, q, z, hd]
/-- its things, told as a list that is read only -/
theorem S_things (H : HSh T) (ht : T (.f "things_of") = some d_things_of_2) (a : ShAt s w sh pc t ds) (gt : Good W t) (hc : t.cnt ≤ 2000) {n : Nat} (hn : 2 ≤ n) (g : Gh) : ∃ s', runT T n (.m "Shelf" "things") [.cell sh] (ws W w s g) = .ok (.lst t.things) s' ∧ Kep (ws W w s g) s' := by
  obtain ⟨n, rfl⟩ : ∃ m, n = m + 1 := ⟨n - 1, by omega⟩
  have h15 := gt.h15 hc
  obtain ⟨s', r, k⟩ := R_things ht gt (by omega) (by omega) (n := n) (by omega) (ws W w s g)
  have q := sh_ws (W := W) a g
  refine ⟨s', ?_, k⟩
  rw [runT_at H.things]
  simp [d_Shelf_things, envOf, q, fldD, r]
theorem S_deeds (hd : T (.m "Shelf" "deeds") = some d_Shelf_deeds) (a : ShAt s w sh pc t ds) {n : Nat} (hn : 1 ≤ n) (g : Gh) : runT T n (.m "Shelf" "deeds") [.cell sh] (ws W w s g) = .ok (.lst ds) (ws W w s g) := by
  obtain ⟨n, rfl⟩ : ∃ m, n = m + 1 := ⟨n - 1, by omega⟩
  have q := sh_ws (W := W) a g
  have q2 : (ws W w s g).m pc = some (.lst ds) := (ws_ne a.pw).trans a.hp
  have bl : bltD .list [.cell pc] (ws W w s g) = .ok (.lst ds) (ws W w s g) := by simp [bltD, seqOf, q2]
  rw [runT_at hd]
  simp [d_Shelf_deeds, envOf, q, fldD, bl]
theorem sto_shelf (hw : w < s.nx) {c1 c2 c3 l : Cell} {g : Gh} : (((((ws W w s g).new c1).set s.nx c2).set s.nx c3).new l).set s.nx c1 = ws W w ((s.new c1).new l) g := by
  unfold ws Sto.set Sto.new
  congr
  funext j
  by_cases h1 : j = w
  · subst h1
    have a : ¬ j = s.nx := by omega
    have b : ¬ j = s.nx + 1 := by omega
    simp [a, b]
  · by_cases h2 : j = s.nx
    · subst h2; simp [h1]
    · simp [h1, h2]
theorem sto_shelf2 (hw : w < s.nx) {c1 c2 l : Cell} {g : Gh} : (ws W w ((s.new c1).new l) g).set s.nx c2 = ws W w ((s.new c2).new l) g := by
  unfold ws Sto.set Sto.new
  congr
  funext j
  by_cases h1 : j = w
  · subst h1
    have a : ¬ j = s.nx := by omega
    simp [a]
  · by_cases h2 : j = s.nx
    · subst h2; simp [h1]
    · simp [h1, h2]
/-- a shelf is made of a list that is read only -/
theorem S_new (H : HSh T) {xs : List D} (hx : ∀ z ∈ xs, W.Th z) (hl : xs.length ≤ 2000) (ok : GhOk g) (hk : k0 ≤ g.k) (hw : w < s.nx) {n : Nat} (hn : 40 ≤ n) :
    ∃ t g', runT T n (.m "Shelf" "__init__") [.cell s.nx, .cell w, .lst xs] ((ws W w s g).new (.ins "Shelf" [])) = .ok .non (ws W w ((s.new (shC w t.d (s.nx + 1))).new (.lst [])) g') ∧ Stp g g' xs.length ∧ Fi W k0 S g' t ∧ t.things = xs := by
  obtain ⟨n, rfl⟩ : ∃ m, n = m + 1 := ⟨n - 1, by omega⟩
  obtain ⟨t, g', r, st, ft, tt, _⟩ := T_make_of (w := w) (s := (s.new (shC w .non (s.nx + 1))).new (.lst [])) (k0 := k0) (S := S) H.e.p.n H.mb H.mo hx hl ok hk (n := n) (by omega)
  refine ⟨t, g', ?_, st, ft, tt⟩
  have wn : w ≠ s.nx := by omega
  let f1 : Cell := .ins "Shelf" [("wood", .cell w)]
  let f2 : Cell := .ins "Shelf" [("wood", .cell w), ("now", .non)]
  have x1 : ((ws W w s g).new (.ins "Shelf" [])).m s.nx = some (.ins "Shelf" []) := by simp [ws, Sto.new, Sto.set]
  have e1 : sfldD (.cell s.nx) "wood" (.cell w) ((ws W w s g).new (.ins "Shelf" [])) = some (((ws W w s g).new (.ins "Shelf" [])).set s.nx f1) := by
    unfold sfldD; simp only [x1]; rfl
  have x2 : (((ws W w s g).new (.ins "Shelf" [])).set s.nx f1).m s.nx = some f1 := by simp [Sto.set]
  have e2 : sfldD (.cell s.nx) "now" .non (((ws W w s g).new (.ins "Shelf" [])).set s.nx f1) = some ((((ws W w s g).new (.ins "Shelf" [])).set s.nx f1).set s.nx f2) := by
    unfold sfldD; simp only [x2, f1]; rfl
  have x3 : (((((ws W w s g).new (.ins "Shelf" [])).set s.nx f1).set s.nx f2).new (.lst [])).m s.nx = some f2 := by simp [Sto.set, Sto.new, ws]
  have e3 : sfldD (.cell s.nx) "past" (.cell (s.nx + 1)) (((((ws W w s g).new (.ins "Shelf" [])).set s.nx f1).set s.nx f2).new (.lst [])) = some ((((((ws W w s g).new (.ins "Shelf" [])).set s.nx f1).set s.nx f2).new (.lst [])).set s.nx (shC w .non (s.nx + 1))) := by
    unfold sfldD; simp only [x3, f2]; rfl
  have e4 : ((((((ws W w s g).new (.ins "Shelf" [])).set s.nx f1).set s.nx f2).new (.lst [])).set s.nx (shC w .non (s.nx + 1))) = ws W w ((s.new (shC w .non (s.nx + 1))).new (.lst [])) g := by
    rw [← sto_shelf hw (c1 := shC w .non (s.nx + 1)) (c2 := f1) (c3 := f2)]
    unfold ws Sto.set Sto.new
    congr
    funext j
    by_cases h2 : j = s.nx <;> simp [h2]
  rw [e4] at e3
  have x5 : (ws W w ((s.new (shC w .non (s.nx + 1))).new (.lst [])) g').m s.nx = some (.ins "Shelf" [("wood", .cell w), ("now", .non), ("past", .cell (s.nx + 1))]) := by
    rw [ws_ne (by omega)]; simp [Sto.new, shC]
  have e5 : sfldD (.cell s.nx) "now" t.d (ws W w ((s.new (shC w .non (s.nx + 1))).new (.lst [])) g') = some (ws W w ((s.new (shC w t.d (s.nx + 1))).new (.lst [])) g') := by
    unfold sfldD; simp only [x5]
    rw [if_pos (by show (3 : Nat) < 1000; decide)]
    exact congrArg some (sto_shelf2 hw)
  have n1 : ((((ws W w s g).new (.ins "Shelf" [])).set s.nx f1).set s.nx f2).nx = s.nx + 1 := rfl
  rw [runT_go [some (.cell s.nx), some (.cell w), some (.lst xs)] H.init rfl rfl]
  simp only [d_Shelf_init, evSs_cons, evSs_nil, evS_sfld, evE_var, getV_s, getV_0, thenS_ok, e1, optS_some, nx_then, evE_non, e2, evE_lstC, evEs_nil, bind_ok, List.length_nil, if_pos (show (0 : Nat) ≤ sizeLine from Nat.zero_le _), n1, e3, evS_ifs, evE_cmp, cmp_isn, isCell, isNon, Bool.not_false, if_neg Bool.false_ne_true, evE_call, evEs_cons, r, e5, endS_nx]
end
end MP
/-! S5: a deed on a shelf and on a plain list. -/
namespace MP
open PySem
variable {T : FK → Option Def} {w : Nat} {s : Sto} {g : Gh}

section
variable {W : Way T} {p : Nat} {xs : List D}
theorem w_len (hp : p ≠ w) (h : s.m p = some (.lst xs)) : bltD .len [.cell p] (ws W w s g) = .ok (.int xs.length) (ws W w s g) := blt_len_cell ((ws_ne hp).trans h)
theorem w_isl (hp : p ≠ w) (h : s.m p = some (.lst xs)) : isLstC (.cell p) (ws W w s g) = true := by
  unfold isLstC; simp only [(ws_ne hp).trans h]
theorem w_app (hp : p ≠ w) (h : s.m p = some (.lst xs)) {d : D} (hl : xs.length < 16777216) : appD (.cell p) d (ws W w s g) = some (ws W w (s.set p (.lst (xs ++ [d]))) g) := by
  unfold appD
  simp only [(ws_ne hp).trans h]
  rw [if_pos (show xs.length < sizeLine from hl), ws_out hp]
theorem w_six (hp : p ≠ w) (h : s.m p = some (.lst xs)) {j : Nat} {d : D} (hj : j < xs.length) : sixD (.cell p) (.int j) d (ws W w s g) = some (ws W w (s.set p (.lst (xs.set j d))) g) := by
  have e : L2.ixN xs.length (j : Int) = some j := by
    unfold L2.ixN
    rw [if_pos (by omega), if_pos (by omega)]
    simp
  unfold sixD
  simp only [(ws_ne hp).trans h, e]
  rw [ws_out hp]
theorem w_ins (hp : p ≠ w) (h : s.m p = some (.lst xs)) {j : Nat} {d : D} (hj : j < 100000) (hl : xs.length < 16777216) : mcD .ins (.cell p) [.int j, d] (ws W w s g) = .ok .non (ws W w (s.set p (.lst (xs.take j ++ [d] ++ xs.drop j))) g) := by
  unfold mcD
  simp only [(ws_ne hp).trans h]
  rw [if_pos ⟨by omega, by omega, hl⟩, ws_out hp]
  rfl
theorem w_pop (hp : p ≠ w) (h : s.m p = some (.lst xs)) {j : Nat} {d : D} (hj : xs[j]? = some d) (hl : j < 100000) : mcD .popA (.cell p) [.int j] (ws W w s g) = .ok d (ws W w (s.set p (.lst (xs.eraseIdx j))) g) := by
  unfold mcD
  simp only [(ws_ne hp).trans h]
  rw [if_pos ⟨by omega, by omega⟩]
  simp only [Int.toNat_natCast, hj]
  rw [ws_out hp]
theorem w_clr (hp : p ≠ w) (h : s.m p = some (.lst xs)) : mcD .clr (.cell p) [] (ws W w s g) = .ok .non (ws W w (s.set p (.lst [])) g) := by
  unfold mcD
  simp only [(ws_ne hp).trans h]
  rw [ws_out hp]
theorem w_ext (hp : p ≠ w) (h : s.m p = some (.lst xs)) {ys : List D} (hl : xs.length + ys.length ≤ 16777216) : mcD .ext (.cell p) [.lst ys] (ws W w s g) = .ok .non (ws W w (s.set p (.lst (xs ++ ys))) g) := by
  unfold mcD
  simp only [(ws_ne hp).trans h, lstOf]
  rw [if_pos (show _ ≤ sizeLine from hl), ws_out hp]
theorem w_sls (hp : p ≠ w) (h : s.m p = some (.lst xs)) {i j : Nat} {ys : List D} (hij : i ≤ j) (hj : j ≤ xs.length) (hl : xs.length + ys.length ≤ 16777216) : slsD (.cell p) i j (.lst ys) (ws W w s g) = some (ws W w (s.set p (.lst (xs.take i ++ ys ++ xs.drop j))) g) := by
  unfold slsD
  simp only [(ws_ne hp).trans h]
  rw [if_pos ⟨by omega, by omega, by omega, hl⟩, ws_out hp]
  rfl
theorem w_sl (hp : p ≠ w) (h : s.m p = some (.lst xs)) {i j : Nat} (hij : i ≤ j) (hj : j ≤ xs.length) : slD (.cell p) (some (i : Int)) (some (j : Int)) (ws W w s g) = .ok (.lst ((xs.drop i).take (j - i))) (ws W w s g) := by
  unfold slD
  have e : seqOf (ws W w s g) (.cell p) = some xs := by simp only [seqOf, (ws_ne hp).trans h]
  simp only [e, cutD_mid hij hj]
theorem ShAt.frame {sh pc : Nat} {t : Tr} {ds : List D} {s' : Sto} (a : ShAt s w sh pc t ds) (h1 : s'.m sh = s.m sh) (h2 : s'.m pc = s.m pc) : ShAt s' w sh pc t ds := ⟨h1.trans a.hs, h2.trans a.hp, a.ne, a.nw, a.pw⟩
end
/-- the cells of a deed: the shelf, its deeds, the plain list, the plain deeds -/
structure Dc (w sh pc p dc : Nat) : Prop where
  p1 : p ≠ w
  p2 : p ≠ sh
  p3 : p ≠ pc
  d1 : dc ≠ w
  d2 : dc ≠ sh
  d3 : dc ≠ pc
  d4 : dc ≠ p
/-- a deed: its name and whole numbers -/
def DdOk (dd : D) : Prop := ∃ (a : Str) (is : List Int), dd = .tup (.str a :: is.map D.int)
structure DeedTo (W : Way T) (k0 : Int) (w sh pc p dc : Nat) (s s' : Sto) (g' : Gh) (xs xs' : List D) (ds : List D) (t' : Tr) (dd : D) : Prop where
  nx : s'.nx = s.nx
  rest : ∀ i, i ≠ p → i ≠ sh → i ≠ pc → i ≠ dc → s'.m i = s.m i
  sh : ShAt s' w sh pc t' (ds ++ [dd])
  pl : s'.m p = some (.lst xs')
  dl : s'.m dc = some (.lst (ds ++ [dd]))
  fi : Fi W k0 noS g' t'
  th : t'.things = xs'
  pln : Pln 2 dd
  shp : DdOk dd
theorem lk_shelf {a b c : D} {m : String} (h : m ≠ "wood" := by decide) (h2 : m ≠ "now" := by decide) (h3 : m ≠ "past" := by decide) : List.lookup (Str.ofString m) [(Str.ofString "wood", a), (Str.ofString "now", b), (Str.ofString "past", c)] = none := by
  simp [h, h2, h3]
theorem T_deed8 (H : HSh T) (hth : T (.f "_law_thing") = some d_thing_7) (hd : T (.f "_law_deed") = some d_deed_8) {k0 : Int} {sh pc p dc : Nat} (c : Dc w sh pc p dc) {t : Tr} {xs ds : List D} (a : ShAt s w sh pc t ds) (hp : s.m p = some (.lst xs)) (hdc : s.m dc = some (.lst ds)) (ok : GhOk g) (hk : k0 ≤ g.k) (ft : Fi (wayN T) k0 noS g t) (ht : t.things = xs) (hc : xs.length + 1 ≤ 2000) (hl : ds.length ≤ 1000) {v κ : Int} (h0 : 0 ≤ v) (h1 : v < 2 ^ 40) (hκ : κ = 0 ∨ κ = 1) {n : Nat} (hn : 65 ≤ n) :
    ∃ s' g' c' t' xs' dd, runT T n (.f "_law_deed") [.cell sh, .cell p, .cell dc, .int v, .int κ] (ws (wayN T) w s g) = .ok (.bl true) (ws (wayN T) w s' g') ∧ Stp g g' c' ∧ DeedTo (wayN T) k0 w sh pc p dc s s' g' xs xs' ds t' dd ∧ xs'.length ≤ xs.length + 1 := by
  obtain ⟨n, rfl⟩ : ∃ m, n = m + 1 := ⟨n - 1, by omega⟩
  have i5 := emod_in (v := v) (m := 5) (by decide)
  have hv5 : 0 ≤ v / 5 := by omega
  have fd5 : ∀ s, binD .fdiv (.int v) (.int 5) s = .ok (.int (v / 5)) s := fun s => bin_fdiv_lit (by decide) (by decide)
  have fd4 : ∀ s, binD .fdiv (.int (v / 5)) (.int 400) s = .ok (.int (v / 5 / 400)) s := fun s => bin_fdiv_lit (by decide) (by decide)
  obtain ⟨x, hx, rx⟩ := T_thing7 hth (v := v / 5 / 400) (κ := κ) (by omega) (by omega) hκ
  have rx := fun s => rx n s (by omega)
  have hb : (0 : Int) < (xs.length : Int) + 1 := by omega
  have ij := emod_in (v := v / 5) (m := (xs.length : Int) + 1) hb
  obtain ⟨j, hj⟩ := Int.eq_ofNat_of_zero_le ij.1
  rw [hj] at ij
  have ct := Tr.things_len t
  rw [ht] at ct
  have q1 := w_len (W := wayN T) (g := g) c.p1 hp
  rw [runT_go [some (.cell sh), some (.cell p), some (.cell dc), some (.int v), some (.int κ), none, none, none, none, none] hd rfl rfl]
  have e1 : evSs (runT T n) (takeS 4 d_deed_8.b) [some (.cell sh), some (.cell p), some (.cell dc), some (.int v), some (.int κ), none, none, none, none, none] (ws (wayN T) w s g) =
      .nx [some (.cell sh), some (.cell p), some (.cell dc), some (.int (v / 5)), some (.int κ), some (.int (v % 5)), some (.int j), some x, none, none] (ws (wayN T) w s g) := by
    simp only [d_deed_8, takeS, evSs_cons, evSs_nil, evS_asg, evE_bin, evE_var, evE_int, getV_s, getV_0, bind_ok, bin_mod, if_pos (show (0 : Int) < 5 by decide), thenS_ok, nx_then, setE_s, setE_0, fd5, evE_blt, evEs_cons, evEs_nil, q1, bin_add, if_pos hb, hj, evE_call, fd4, rx]
  rw [seg 4 e1]
  generalize hnum : v / 5 = num at *
  generalize v % 5 = way at *
  have px : Pln 3 x := (wayN T).pl hx.1
  have wood : ∀ (s : Sto) (g : Gh), ShAt s w sh pc t ds → (ws (wayN T) w s g).m sh = some (.ins "Shelf" [("wood", .cell w), ("now", t.d), ("past", .cell pc)]) := fun s g a => sh_ws a g
  have kA : ∀ (k : Int) (F : Fn) (δ : Env), getV δ 5 = (fun s => .ok (.int way) s) → getV δ 6 = (fun s => .ok (.int (j : Int)) s) → getV δ 1 = (fun s => .ok (.cell p) s) → evE F (.an (.cons (.cmp .eq (.var 5) (.int k)) (.cons (.cmp .lt (.var 6) (.blt .len (.cons (.var 1) .nil))) .nil))) δ (ws (wayN T) w s g) = .ok (.bl (decide (way = k ∧ j < xs.length))) (ws (wayN T) w s g) := fun k F δ h5 h6 h1 => by
    have e1 : evE F (.var 5) δ = fun s => .ok (.int way) s := h5
    have e2 : evE F (.var 6) δ = fun s => .ok (.int (j : Int)) s := h6
    have e3 : evE F (.var 1) δ = fun s => .ok (.cell p) s := h1
    simp only [evE_an, evAnd_more, evAnd_one, evE_cmp, e1, e2, evE_int, bind_ok, cmp_eq, eqD_int, Option.map_some, okO_some, evE_blt, evEs_cons, evEs_nil, e3, q1, cmp_lt]
    by_cases h : way = k
    · simp [h]
    · simp [h]
  have isNN : ∀ s, cmpD .is .non .non s = .ok (.bl true) s := fun s => rfl
  let δ0 : Env := [some (.cell sh), some (.cell p), some (.cell dc), some (.int num), some (.int κ), some (.int way), some (.int j), some x, none, none]
  have al : ds.length < 16777216 := by omega
  have tupOk : (2 : Nat) ≤ sizeLine ∧ (3 : Nat) ≤ sizeLine := ⟨by show 2 ≤ 16777216; decide, by show 3 ≤ 16777216; decide⟩
  by_cases c0 : way = 0 ∧ j < xs.length
  · obtain ⟨y, hy⟩ : ∃ y, xs[j]? = some y := ⟨_, List.getElem?_eq_getElem c0.2⟩
    obtain ⟨u, g', c', r, st, fu, tu⟩ := S_out H a ok hk ft (by omega) (x := y) (j := j) (by rw [ht]; exact hy) al (n := n) (by omega)
    let s1 := shP s w sh pc u.d (ds ++ [.tup [.str "out", .int j]])
    have d1 : s1.m dc = some (.lst ds) := (shP_ne c.d2 c.d3).trans hdc
    have p1 : (s1.set dc (.lst (ds ++ [.tup [.str "out", .int j]]))).m p = some (.lst xs) := by rw [set_ne (Ne.symm c.d4)]; exact (shP_ne c.p2 c.p3).trans hp
    have il := w_isl (W := wayN T) (g := g') c.d1 d1
    have ap := w_app (W := wayN T) (g := g') c.d1 d1 (d := .tup [.str "out", .int j]) al
    have ilp := w_isl (W := wayN T) (g := g') c.p1 p1
    have po := w_pop (W := wayN T) (g := g') c.p1 p1 hy (by omega)
    have py : Pln 3 y := (wayN T).pl (by rw [← ht] at hy; exact (ft.good.th y (List.mem_of_getElem? hy)).1)
    have eq : ∀ s, eqD s y y = some true := fun s => eqD_refl py (by decide)
    have ga := (a.shP (u := u) (es := ds ++ [.tup [.str "out", .int j]]))
    refine ⟨(s1.set dc (.lst (ds ++ [.tup [.str "out", .int j]]))).set p (.lst (xs.eraseIdx j)), g', c', u, xs.eraseIdx j, .tup [.str "out", .int j], ?_, st, ⟨rfl, fun i h1 h2 h3 h4 => by rw [set_ne h1, set_ne h4]; exact shP_ne h2 h3, ga.frame (by rw [set_ne (Ne.symm c.p2), set_ne (Ne.symm c.d2)]) (by rw [set_ne (Ne.symm c.p3), set_ne (Ne.symm c.d3)]), by simp, by rw [set_ne c.d4]; simp, fu, by rw [tu, ht, List.eraseIdx_eq_take_drop_succ], (pln_tup (n := 1) (by simp)).mono (by decide), ⟨"out", [_], rfl⟩⟩, by have := List.length_eraseIdx_le xs j; omega⟩
    have cnd := kA 0 (runT T n) δ0 rfl rfl rfl
    rw [decide_eq_true c0] at cnd
    show endS (evSs (runT T n) (.cons (.ifs (.an _) _ _) _) δ0 _) = _
    rw [evSs_cons, evS_ifs, cnd, thenS_ok]
    simp only [evSs_cons, evSs_nil, evS_asg, evE_meth, evE_var, δ0, getV_s, getV_0, bind_ok, wood s g a, lk_shelf (m := "out"), evEs_cons, evEs_nil, noexc_ok, r, thenS_ok, setE_s, setE_0, nx_then, evS_app, s1, il, if_true, evE_tup, evE_str, List.length_cons, List.length_nil, if_pos tupOk.1, ap, optS_some, evS_ret, evE_cmp, evE_mc, ilp, po, cmp_eq, eq, Option.map_some, okO_some, rt_then, endS_rt]
  · have cnd := kA 0 (runT T n) δ0 rfl rfl rfl
    rw [decide_eq_false c0] at cnd
    have s0 : evSs (runT T n) (takeS 1 (dropS 4 d_deed_8.b)) δ0 (ws (wayN T) w s g) = .nx δ0 (ws (wayN T) w s g) := by
      show (evS (runT T n) (.ifs (.an _) _ .nil) δ0 _).andThen _ = _
      rw [evS_ifs, cnd, thenS_ok]
      rfl
    show ∃ s' g' c' t' xs' dd, endS (evSs (runT T n) (dropS 4 d_deed_8.b) δ0 _) = _ ∧ _
    rw [seg 1 s0]
    by_cases c1 : way = 1 ∧ j < xs.length
    · obtain ⟨u, g', c', r, st, fu, tu⟩ := S_swap H ((a.frame (s' := (s.set p (.lst (xs.set j x))).set dc (.lst (ds ++ [.tup [.str "swap", .int j]]))) (by rw [set_ne (Ne.symm c.d2), set_ne (Ne.symm c.p2)]) (by rw [set_ne (Ne.symm c.d3), set_ne (Ne.symm c.p3)]))) ok hk ft hx (by omega) (j := j) (by omega) al (n := n) (by omega)
      have d1 : (s.set p (.lst (xs.set j x))).m dc = some (.lst ds) := by rw [set_ne c.d4]; exact hdc
      have sx := w_six (W := wayN T) (g := g) c.p1 hp (j := j) (d := x) c1.2
      have il := w_isl (W := wayN T) (g := g) c.d1 d1
      have ap := w_app (W := wayN T) (g := g) c.d1 d1 (d := .tup [.str "swap", .int j]) al
      have aF : ShAt ((s.set p (.lst (xs.set j x))).set dc (.lst (ds ++ [.tup [.str "swap", .int j]]))) w sh pc t ds := a.frame (by rw [set_ne (Ne.symm c.d2), set_ne (Ne.symm c.p2)]) (by rw [set_ne (Ne.symm c.d3), set_ne (Ne.symm c.p3)])
      refine ⟨shP ((s.set p (.lst (xs.set j x))).set dc (.lst (ds ++ [.tup [.str "swap", .int j]]))) w sh pc u.d (ds ++ [.tup [.str "swap", .int j]]), g', c', u, xs.set j x, .tup [.str "swap", .int j], ?_, st, ⟨rfl, fun i h1 h2 h3 h4 => by rw [shP_ne h2 h3, set_ne h4, set_ne h1], aF.shP, by rw [shP_ne c.p2 c.p3, set_ne (Ne.symm c.d4)]; simp, by rw [shP_ne c.d2 c.d3]; simp, fu, ?_, (pln_tup (n := 1) (by simp)).mono (by decide), ⟨"swap", [_], rfl⟩⟩, by rw [List.length_set]; omega⟩
      · have cnd := kA 1 (runT T n) δ0 rfl rfl rfl
        rw [decide_eq_true c1] at cnd
        show endS (evSs (runT T n) (.cons (.ifs (.an _) _ _) _) δ0 _) = _
        rw [evSs_cons, evS_ifs, cnd, thenS_ok]
        simp only [evSs_cons, evSs_nil, evS_six, evE_meth, evE_var, δ0, getV_s, getV_0, bind_ok, sx, thenS_ok, optS_some, nx_then, evS_app, il, if_true, evE_tup, evEs_cons, evEs_nil, evE_str, List.length_cons, List.length_nil, if_pos tupOk.1, ap, evS_ret, evE_cmp, wood _ g aF, lk_shelf (m := "swap"), noexc_ok, r, evE_non, isNN, rt_then, endS_rt]
      · rw [tu, ht, List.set_eq_take_append_cons_drop, if_pos c1.2]
    · have cnd := kA 1 (runT T n) δ0 rfl rfl rfl
      rw [decide_eq_false c1] at cnd
      have s1 : evSs (runT T n) (takeS 1 (dropS 1 (dropS 4 d_deed_8.b))) δ0 (ws (wayN T) w s g) = .nx δ0 (ws (wayN T) w s g) := by
        show (evS (runT T n) (.ifs (.an _) _ .nil) δ0 _).andThen _ = _
        rw [evS_ifs, cnd, thenS_ok]
        rfl
      rw [seg 1 s1]
      have c2v : evE (runT T n) (.cmp .eq (.var 5) (.int 2)) δ0 (ws (wayN T) w s g) = .ok (.bl (decide (way = 2))) (ws (wayN T) w s g) := by
        simp only [evE_cmp, evE_var, evE_int, δ0, getV_s, getV_0, bind_ok, cmp_eq, eqD_int, Option.map_some, okO_some]
      by_cases c2 : way = 2
      · have hb2 : (0 : Int) < (xs.length : Int) + 1 - j := by omega
        have ie := emod_in (v := num / 400) (m := (xs.length : Int) + 1 - j) hb2
        obtain ⟨e, he⟩ := Int.eq_ofNat_of_zero_le ie.1
        rw [he] at ie
        obtain ⟨xs', hxs⟩ : ∃ y, y = xs.take j ++ ((xs.drop j).take (j + e - j)).reverse ++ xs.drop (j + e) := ⟨_, rfl⟩
        have sl := w_sl (W := wayN T) (g := g) c.p1 hp (i := j) (j := j + e) (by omega) (by omega)
        have ss := w_sls (W := wayN T) (g := g) c.p1 hp (i := j) (j := j + e) (ys := ((xs.drop j).take (j + e - j)).reverse) (by omega) (by omega) (by simp only [List.length_reverse, List.length_take, List.length_drop]; omega)
        rw [← hxs] at ss
        have d1 : (s.set p (.lst xs')).m dc = some (.lst ds) := by rw [set_ne c.d4]; exact hdc
        have il := w_isl (W := wayN T) (g := g) c.d1 d1
        have ap := w_app (W := wayN T) (g := g) c.d1 d1 (d := .tup [.str "turned", .int j, .int ((j + e : Nat) : Int)]) al
        have aF : ShAt ((s.set p (.lst xs')).set dc (.lst (ds ++ [.tup [.str "turned", .int j, .int ((j + e : Nat) : Int)]]))) w sh pc t ds := a.frame (by rw [set_ne (Ne.symm c.d2), set_ne (Ne.symm c.p2)]) (by rw [set_ne (Ne.symm c.d3), set_ne (Ne.symm c.p3)])
        obtain ⟨u, g', c', r, st, fu, tu⟩ := S_turned H aF ok hk ft (by omega) (i := j) (j := j + e) (by omega) (by omega) al (n := n) (by omega)
        have eje : (j : Int) + (e : Int) = ((j + e : Nat) : Int) := by omega
        refine ⟨shP ((s.set p (.lst xs')).set dc (.lst (ds ++ [.tup [.str "turned", .int j, .int ((j + e : Nat) : Int)]]))) w sh pc u.d (ds ++ [.tup [.str "turned", .int j, .int ((j + e : Nat) : Int)]]), g', c', u, xs', .tup [.str "turned", .int j, .int ((j + e : Nat) : Int)], ?_, st, ⟨rfl, fun i h1 h2 h3 h4 => by rw [shP_ne h2 h3, set_ne h4, set_ne h1], aF.shP, by rw [shP_ne c.p2 c.p3, set_ne (Ne.symm c.d4)]; simp, by rw [shP_ne c.d2 c.d3]; simp, fu, ?_, (pln_tup (n := 1) (by simp)).mono (by decide), ⟨"turned", [_, _], rfl⟩⟩, by rw [hxs]; simp only [List.length_append, List.length_reverse, List.length_take, List.length_drop]; omega⟩
        · rw [decide_eq_true c2] at c2v
          show endS (evSs (runT T n) (.cons (.ifs (.cmp .eq (.var 5) (.int 2)) _ _) _) δ0 _) = _
          rw [evSs_cons, evS_ifs, c2v, thenS_ok]
          simp only [evSs_cons, evSs_nil, evS_asg, evE_bin, evE_blt, evEs_cons, evEs_nil, evE_var, evE_int, δ0, getV_s, getV_0, bind_ok, fd4, q1, bin_add, bin_sub, bin_mod, if_pos hb2, he, eje, thenS_ok, setE_s, setE_0, nx_then, evS_slset, evE_rev, evE_sl, evEo_some, sl, revD, seqOf, ss, optS_some, evS_app, il, if_true, evE_tup, evE_str, List.length_cons, List.length_nil, if_pos tupOk.2, ap, evS_ret, evE_meth, wood _ g aF, lk_shelf (m := "turned"), noexc_ok, r, evE_cmp, evE_non, isNN, rt_then, endS_rt]
        · rw [tu, ht, hxs, List.drop_take]
      · have s2 : evSs (runT T n) (takeS 1 (dropS 1 (dropS 1 (dropS 4 d_deed_8.b)))) δ0 (ws (wayN T) w s g) = .nx δ0 (ws (wayN T) w s g) := by
          rw [decide_eq_false c2] at c2v
          show (evS (runT T n) (.ifs (.cmp .eq (.var 5) (.int 2)) _ .nil) δ0 _).andThen _ = _
          rw [evS_ifs, c2v, thenS_ok]
          rfl
        rw [seg 1 s2]
        have iw := w_isl (W := wayN T) (g := g) c.p1 hp
        have si := w_ins (W := wayN T) (g := g) c.p1 hp (j := j) (d := x) (by omega) (by omega)
        have d1 : (s.set p (.lst (xs.take j ++ [x] ++ xs.drop j))).m dc = some (.lst ds) := by rw [set_ne c.d4]; exact hdc
        have il := w_isl (W := wayN T) (g := g) c.d1 d1
        have ap := w_app (W := wayN T) (g := g) c.d1 d1 (d := .tup [.str "put", .int j]) al
        have aF : ShAt ((s.set p (.lst (xs.take j ++ [x] ++ xs.drop j))).set dc (.lst (ds ++ [.tup [.str "put", .int j]]))) w sh pc t ds := a.frame (by rw [set_ne (Ne.symm c.d2), set_ne (Ne.symm c.p2)]) (by rw [set_ne (Ne.symm c.d3), set_ne (Ne.symm c.p3)])
        obtain ⟨u, g', c', r, st, fu, tu⟩ := S_put H aF ok hk ft hx (by omega) (j := j) (by omega) al (n := n) (by omega)
        refine ⟨shP ((s.set p (.lst (xs.take j ++ [x] ++ xs.drop j))).set dc (.lst (ds ++ [.tup [.str "put", .int j]]))) w sh pc u.d (ds ++ [.tup [.str "put", .int j]]), g', c', u, xs.take j ++ [x] ++ xs.drop j, .tup [.str "put", .int j], ?_, st, ⟨rfl, fun i h1 h2 h3 h4 => by rw [shP_ne h2 h3, set_ne h4, set_ne h1], aF.shP, by rw [shP_ne c.p2 c.p3, set_ne (Ne.symm c.d4)]; simp, by rw [shP_ne c.d2 c.d3]; simp, fu, ?_, (pln_tup (n := 1) (by simp)).mono (by decide), ⟨"put", [_], rfl⟩⟩, by simp only [List.length_append, List.length_take, List.length_drop, List.length_cons, List.length_nil]; omega⟩
        · show endS (evSs (runT T n) (.cons (.expr (.mc .ins (.var 1) (.cons (.var 6) (.cons (.var 7) .nil)))) _) δ0 _) = _
          simp only [evSs_cons, evSs_nil, evS_expr, evE_mc, evE_var, δ0, getV_s, getV_0, bind_ok, iw, if_true, evEs_cons, evEs_nil, si, thenS_ok, nx_then, evS_app, il, evE_tup, evE_str, List.length_cons, List.length_nil, if_pos tupOk.1, ap, optS_some, evS_ret, evE_meth, wood _ g aF, lk_shelf (m := "put"), noexc_ok, r, evE_cmp, evE_non, isNN, rt_then, endS_rt]
        · rw [tu, ht]; simp
end MP
/-! S6: amounts, rows of things, going back; states that grow. -/
namespace MP
open PySem
variable {T : FK → Option Def} {W : Way T} {w : Nat} {s : Sto} {g : Gh}

theorem run_amount (h : T (.f "_law_amount") = some d_amount) {c : Int} : ∃ m : Nat, m ≤ 300 ∧ ∀ (n : Nat) (s : Sto), 1 ≤ n → runT T n (.f "_law_amount") [.int c] s = .ok (.int m) s := by
  have fd : ∀ s, binD .fdiv (.int c) (.int 16) s = .ok (.int (c / 16)) s := fun s => bin_fdiv_lit (by decide) (by decide)
  have i1 := emod_in (v := c / 16) (m := 300) (by decide)
  have i2 := emod_in (v := c / 16) (m := 60) (by decide)
  have i3 := emod_in (v := c / 16) (m := 9) (by decide)
  have q1 : ∀ s, eqD s (.int (c % 16)) (.int 5) = some (decide (c % 16 = 5)) := fun s => by rw [eqD_int]
  have q2 : ∀ s, eqD s (.int (c % 4)) (.int 1) = some (decide (c % 4 = 1)) := fun s => by rw [eqD_int]
  by_cases c1 : c % 16 = 5
  · refine ⟨(c / 16 % 300).toNat, by omega, fun n s hn => ?_⟩
    obtain ⟨n, rfl⟩ : ∃ m, n = m + 1 := ⟨n - 1, by omega⟩
    rw [Int.toNat_of_nonneg i1.1, runT_at h]
    simp [d_amount, envOf, c1]
  · by_cases c2 : c % 4 = 1
    · refine ⟨(c / 16 % 60).toNat, by omega, fun n s hn => ?_⟩
      obtain ⟨n, rfl⟩ : ∃ m, n = m + 1 := ⟨n - 1, by omega⟩
      rw [Int.toNat_of_nonneg i2.1, runT_at h]
      simp [d_amount, envOf, c1, c2]
    · refine ⟨(c / 16 % 9).toNat, by omega, fun n s hn => ?_⟩
      obtain ⟨n, rfl⟩ : ∃ m, n = m + 1 := ⟨n - 1, by omega⟩
      rw [Int.toNat_of_nonneg i3.1, runT_at h]
      simp [d_amount, envOf, c1, c2]
/-- a row of things made of numbers -/
theorem lc_things7 (h : T (.f "_law_thing") = some d_thing_7) {κ : Int → Int} (hκ : ∀ v, κ v = 0 ∨ κ v = 1) {vs : List Int} (hv : ∀ v ∈ vs, 0 ≤ v ∧ v < 2 ^ 30) (hl : vs.length ≤ 10000) : ∃ xs : List D, xs.length = vs.length ∧ (∀ z ∈ xs, (wayN T).Th z) ∧ ∀ (n i : Nat) (elt : E) (δ : Env) (s : Sto), 1 ≤ n →
    (∀ v ∈ vs, ∀ s, evE (runT T n) elt (δ.set i (some (.int v))) s = runT T n (.f "_law_thing") [.int v, .int (κ v)] s) → lcRun i none (evE (runT T n) elt) δ (vs.map D.int) [] s = .ok xs s := by
  have thE : ∀ v : Int, ∃ x, 0 ≤ v ∧ v < 2 ^ 40 → (wayN T).Th x ∧ ∀ (n : Nat) (s : Sto), 1 ≤ n → runT T n (.f "_law_thing") [.int v, .int (κ v)] s = .ok x s := fun v => by
    by_cases hb : 0 ≤ v ∧ v < 2 ^ 40
    · obtain ⟨x, hx, r⟩ := T_thing7 h hb.1 hb.2 (hκ v)
      exact ⟨x, fun _ => ⟨hx, r⟩⟩
    · exact ⟨.non, fun z => absurd z hb⟩
  refine ⟨vs.map fun v => (thE v).choose, by simp, fun z hz => ?_, fun n i elt δ s hn he => ?_⟩
  · obtain ⟨v, hv', rfl⟩ := List.mem_map.mp hz
    have := hv v hv'
    exact ((thE v).choose_spec ⟨this.1, by omega⟩).1
  · have q := lc_map (i := i) (elt := evE (runT T n) elt) (δ := δ) (s := s) (fun d => match d with | .int v => (thE v).choose | d => d) (xs := vs.map D.int) (acc := []) (fun x hx => by
      obtain ⟨v, hv', rfl⟩ := List.mem_map.mp hx
      have := hv v hv'
      rw [he v hv' s]
      exact ((thE v).choose_spec ⟨this.1, by omega⟩).2 n s hn) (by rw [List.length_map]; show 0 + _ ≤ 16777216; simp; omega)
    rw [q, List.nil_append, List.map_map]
    rfl
/-- the state behind what only adds -/
theorem kep_ws {s' : Sto} (k : Kep (ws W w s g) s') (hw : w < s.nx) : ∃ s2, s' = ws W w s2 g ∧ s.nx ≤ s2.nx ∧ ∀ i, i < s.nx → i ≠ w → s2.m i = s.m i := by
  refine ⟨s', (ws_self ?_).symm, k.nx, fun i h1 h2 => ?_⟩
  · rw [k.m w hw]; exact ws_m
  · rw [k.m i h1]; exact ws_ne h2
theorem T_back8 (H : HSh T) (hb : T (.m "Shelf" "back") = some d_Shelf_back_3) (hd : T (.f "_law_back") = some d_back_2) {k0 : Int} {sh pc p dc : Nat} (c : Dc w sh pc p dc) {t u : Tr} {xs ys ds : List D} (a : ShAt s w sh pc t ds) (hp : s.m p = some (.lst xs)) (hdc : s.m dc = some (.lst ds)) (fu : Fi W k0 noS g u) (hu : u.things = ys) (hc : ys.length ≤ 2000) (hl : ds.length ≤ 1000) {n : Nat} (hn : 10 ≤ n) :
    ∃ s' dd, runT T n (.f "_law_back") [.cell sh, .cell p, .cell dc, u.d, .lst ys] (ws W w s g) = .ok (.bl true) (ws W w s' g) ∧ DeedTo W k0 w sh pc p dc s s' g xs ys ds u dd := by
  obtain ⟨n, rfl⟩ : ∃ m, n = m + 1 := ⟨n - 1, by omega⟩
  have cu := Tr.things_len u
  rw [hu] at cu
  have al : ds.length < 16777216 := by omega
  have r := S_back H hb a fu.good al (n := n) (by omega) g
  let s1 := shP s w sh pc u.d (ds ++ [.tup [.str "back", .int u.cnt]])
  have aF : ShAt s1 w sh pc u (ds ++ [.tup [.str "back", .int u.cnt]]) := a.shP
  have p1 : s1.m p = some (.lst xs) := (shP_ne c.p2 c.p3).trans hp
  have p2 : (s1.set p (.lst [])).m p = some (.lst []) := by simp
  have d3 : ((s1.set p (.lst [])).set p (.lst ([] ++ ys))).m dc = some (.lst ds) := by rw [set_ne c.d4, set_ne c.d4]; exact (shP_ne c.d2 c.d3).trans hdc
  have i1 := w_isl (W := W) (g := g) c.p1 p1
  have q1 := w_clr (W := W) (g := g) c.p1 p1
  have i2 := w_isl (W := W) (g := g) c.p1 p2
  have q2 := w_ext (W := W) (g := g) c.p1 p2 (ys := ys) (by simp; omega)
  have i3 := w_isl (W := W) (g := g) c.d1 d3
  have q3 := w_app (W := W) (g := g) c.d1 d3 (d := .tup [.str "back", .int u.cnt]) al
  let s4 := (((s1.set p (.lst [])).set p (.lst ([] ++ ys))).set dc (.lst (ds ++ [.tup [.str "back", .int u.cnt]])))
  have aF4 : ShAt s4 w sh pc u (ds ++ [.tup [.str "back", .int u.cnt]]) := aF.frame (by rw [set_ne (Ne.symm c.d2), set_ne (Ne.symm c.p2), set_ne (Ne.symm c.p2)]) (by rw [set_ne (Ne.symm c.d3), set_ne (Ne.symm c.p3), set_ne (Ne.symm c.p3)])
  have mk := S_make (W := W) H aF4 (n := n) (by omega) g
  have h15 := fu.good.h15 (by omega)
  have eq : ∀ s, eqD s u.d u.d = some true := fun s => eqD_refl (n := 70) (fu.good.pl.mono (by omega)) (by decide)
  have l2 : (2 : Nat) ≤ sizeLine := by show 2 ≤ 16777216; decide
  have isn : ∀ s, cmpD .isn .non .non s = .ok (.bl false) s := fun s => rfl
  have ecu : (ys.length : Int) = (u.cnt : Int) := by omega
  refine ⟨s4, .tup [.str "back", .int u.cnt], ?_, ⟨rfl, fun i h1 h2 h3 h4 => by show (Sto.set _ _ _).m i = _; rw [set_ne h4, set_ne h1, set_ne h1]; exact shP_ne h2 h3, aF4, ?_, by simp [s4], fu, hu, (pln_tup (n := 1) (by simp)).mono (by decide), ⟨"back", [_], rfl⟩⟩⟩
  · rw [runT_go [some (.cell sh), some (.cell p), some (.cell dc), some u.d, some (.lst ys)] hd rfl rfl]
    simp only [d_back_2, evSs_cons, evSs_nil, evS_ifs, evE_cmp, evE_meth, evE_var, getV_s, getV_0, bind_ok, sh_ws a g, lk_shelf (m := "back"), evEs_cons, evEs_nil, noexc_ok, r, evE_non, isn, thenS_ok, nx_then, evS_expr, evE_mc, s1, i1, if_true, q1, i2, q2, evS_app, i3, evE_tup, evE_str, evE_blt, blt_len_lst, ecu, List.length_cons, List.length_nil, if_pos l2, q3, optS_some, evS_ret, sh_ws aF4 g, lk_shelf (m := "make"), mk, cmp_eq, eq, Option.map_some, okO_some, rt_then, endS_rt, s4]
  · show (Sto.set _ _ _).m p = _
    rw [set_ne (Ne.symm c.d4)]; simp
/-- another shelf's or list's cells -/
theorem run_mkWood0 (hI : T (.m "Wood" "__init__") = some d_Wood_init) {n : Nat} : runT T (n + 1) (.m "Wood" "__init__") [.cell 0] (sto0.new (.ins "Wood" [])) = .ok .non (stoW .non 0) := by
  rw [run_init0 hI (by rfl), ← sto_1]
structure Ord (p sh so kp dc nx : Nat) : Prop where
  a1 : 0 < p
  a2 : p < sh
  a3 : sh + 1 < so
  a4 : so + 1 < kp
  a5 : kp < dc
  a6 : dc < nx
def kdT (z : Tr × List D) : D := .tup [z.1.d, .lst z.2]
structure St38 (T : FK → Option Def) (s : Sto) (g : Gh) (p sh so kp dc : Nat) (t : Tr) (xs ds : List D) (u : Tr) (ys : List D) (ks : List (Tr × List D)) : Prop where
  o : Ord p sh so kp dc s.nx
  a : ShAt s 0 sh (sh + 1) t ds
  hp : s.m p = some (.lst xs)
  hd : s.m dc = some (.lst ds)
  b : ShAt s 0 so (so + 1) u []
  hk : s.m kp = some (.lst (ks.map kdT))
  ok : GhOk g
  ft : Fi (wayN T) 0 noS g t
  tt : t.things = xs
  fu : Fi (wayN T) 0 noS g u
  tu : u.things = ys
  fk : ∀ z ∈ ks, Fi (wayN T) 0 noS g z.1 ∧ z.1.things = z.2 ∧ z.2.length ≤ 400
  pd : ∀ d ∈ ds, Pln 2 d
theorem Ord.dc {p sh so kp dc nx : Nat} (o : Ord p sh so kp dc nx) : Dc 0 sh (sh + 1) p dc := by
  obtain ⟨a1, a2, a3, a4, a5, a6⟩ := o
  exact ⟨by omega, by omega, by omega, by omega, by omega, by omega, by omega⟩
theorem St38.grow {s s' : Sto} {g : Gh} {p sh so kp dc : Nat} {t : Tr} {xs ds : List D} {u : Tr} {ys : List D} {ks : List (Tr × List D)} (h : St38 T s g p sh so kp dc t xs ds u ys ks) (hn : s.nx ≤ s'.nx) (hm : ∀ i, i < s.nx → i ≠ 0 → s'.m i = s.m i) : St38 T s' g p sh so kp dc t xs ds u ys ks := by
  obtain ⟨a1, a2, a3, a4, a5, a6⟩ := h.o
  exact ⟨⟨a1, a2, a3, a4, a5, by omega⟩, h.a.frame (hm _ (by omega) (by omega)) (hm _ (by omega) (by omega)), (hm _ (by omega) (by omega)).trans h.hp, (hm _ (by omega) (by omega)).trans h.hd, h.b.frame (hm _ (by omega) (by omega)) (hm _ (by omega) (by omega)), (hm _ (by omega) (by omega)).trans h.hk, h.ok, h.ft, h.tt, h.fu, h.tu, h.fk, h.pd⟩
theorem St38.deed {s s' : Sto} {g g' : Gh} {c' : Nat} {p sh so kp dc : Nat} {t t' : Tr} {xs xs' ds : List D} {u : Tr} {ys : List D} {ks : List (Tr × List D)} {dd : D} (h : St38 T s g p sh so kp dc t xs ds u ys ks) (st : Stp g g' c') (d : DeedTo (wayN T) 0 0 sh (sh + 1) p dc s s' g' xs xs' ds t' dd) : St38 T s' g' p sh so kp dc t' xs' (ds ++ [dd]) u ys ks := by
  obtain ⟨a1, a2, a3, a4, a5, a6⟩ := h.o
  exact ⟨⟨a1, a2, a3, a4, a5, by rw [d.nx]; exact a6⟩, d.sh, d.pl, d.dl, h.b.frame (d.rest _ (by omega) (by omega) (by omega) (by omega)) (d.rest _ (by omega) (by omega) (by omega) (by omega)), (d.rest _ (by omega) (by omega) (by omega) (by omega)).trans h.hk, st.ok, d.fi, d.th, h.fu.mono st, h.tu, fun z hz => ⟨(h.fk z hz).1.mono st, (h.fk z hz).2⟩, fun e he => by
    rcases List.mem_append.mp he with he | he
    · exact h.pd e he
    · rw [List.mem_singleton.mp he]; exact d.pln⟩
end MP
/-! S7: shelves made of any list or of none; what stands. -/
namespace MP
open PySem
variable {T : FK → Option Def} {W : Way T} {w : Nat} {s : Sto} {g : Gh} {k0 : Int} {S : Tr → Prop}

theorem ws_newS {w : Nat} {s : Sto} {g : Gh} {c : Cell} (h : w < s.nx) : (ws W w s g).new c = ws W w (s.new c) g := by
  unfold ws Sto.set Sto.new
  congr
  funext j
  by_cases h1 : j = s.nx
  · subst h1
    have : ¬ s.nx = w := by omega
    simp [this]
  · simp [h1]
theorem at_new {s : Sto} {c : Cell} : (s.new c).m s.nx = some c := by simp [Sto.new]
theorem new_ne {s : Sto} {c : Cell} {i : Nat} (h : i ≠ s.nx) : (s.new c).m i = s.m i := by simp [Sto.new, h]
/-- the first fields of a shelf -/
theorem shelf_pre (hw : w < s.nx) : ∃ f1 f2 : Cell, sfldD (.cell s.nx) "wood" (.cell w) ((ws W w s g).new (.ins "Shelf" [])) = some (((ws W w s g).new (.ins "Shelf" [])).set s.nx f1) ∧
    sfldD (.cell s.nx) "now" .non (((ws W w s g).new (.ins "Shelf" [])).set s.nx f1) = some ((((ws W w s g).new (.ins "Shelf" [])).set s.nx f1).set s.nx f2) ∧
    sfldD (.cell s.nx) "past" (.cell (s.nx + 1)) (((((ws W w s g).new (.ins "Shelf" [])).set s.nx f1).set s.nx f2).new (.lst [])) = some (ws W w ((s.new (shC w .non (s.nx + 1))).new (.lst [])) g) := by
  have wn : w ≠ s.nx := by omega
  let f1 : Cell := .ins "Shelf" [("wood", .cell w)]
  let f2 : Cell := .ins "Shelf" [("wood", .cell w), ("now", .non)]
  have x1 : ((ws W w s g).new (.ins "Shelf" [])).m s.nx = some (.ins "Shelf" []) := by simp [ws, Sto.new, Sto.set]
  have e1 : sfldD (.cell s.nx) "wood" (.cell w) ((ws W w s g).new (.ins "Shelf" [])) = some (((ws W w s g).new (.ins "Shelf" [])).set s.nx f1) := by
    unfold sfldD; simp only [x1]; rfl
  have x2 : (((ws W w s g).new (.ins "Shelf" [])).set s.nx f1).m s.nx = some f1 := by simp [Sto.set]
  have e2 : sfldD (.cell s.nx) "now" .non (((ws W w s g).new (.ins "Shelf" [])).set s.nx f1) = some ((((ws W w s g).new (.ins "Shelf" [])).set s.nx f1).set s.nx f2) := by
    unfold sfldD; simp only [x2, f1]; rfl
  have x3 : (((((ws W w s g).new (.ins "Shelf" [])).set s.nx f1).set s.nx f2).new (.lst [])).m s.nx = some f2 := by simp [Sto.set, Sto.new, ws]
  have e3 : sfldD (.cell s.nx) "past" (.cell (s.nx + 1)) (((((ws W w s g).new (.ins "Shelf" [])).set s.nx f1).set s.nx f2).new (.lst [])) = some ((((((ws W w s g).new (.ins "Shelf" [])).set s.nx f1).set s.nx f2).new (.lst [])).set s.nx (shC w .non (s.nx + 1))) := by
    unfold sfldD; simp only [x3, f2]; rfl
  have e4 : ((((((ws W w s g).new (.ins "Shelf" [])).set s.nx f1).set s.nx f2).new (.lst [])).set s.nx (shC w .non (s.nx + 1))) = ws W w ((s.new (shC w .non (s.nx + 1))).new (.lst [])) g := by
    rw [← sto_shelf hw (c1 := shC w .non (s.nx + 1)) (c2 := f1) (c3 := f2)]
    unfold ws Sto.set Sto.new
    congr
    funext j
    by_cases h2 : j = s.nx <;> simp [h2]
  rw [e4] at e3
  exact ⟨f1, f2, e1, e2, e3⟩
/-- a shelf is made of what make_of makes -/
theorem S_newG (H : HSh T) {arg : D} {t : Tr} {g' : Gh} (hw : w < s.nx) {n : Nat} (isn : cmpD .isn arg .non (ws W w ((s.new (shC w .non (s.nx + 1))).new (.lst [])) g) = .ok (.bl true) (ws W w ((s.new (shC w .non (s.nx + 1))).new (.lst [])) g)) (r : runT T n (.f "make_of") [.cell w, arg] (ws W w ((s.new (shC w .non (s.nx + 1))).new (.lst [])) g) = .ok t.d (ws W w ((s.new (shC w .non (s.nx + 1))).new (.lst [])) g')) :
    runT T (n + 1) (.m "Shelf" "__init__") [.cell s.nx, .cell w, arg] ((ws W w s g).new (.ins "Shelf" [])) = .ok .non (ws W w ((s.new (shC w t.d (s.nx + 1))).new (.lst [])) g') := by
  obtain ⟨f1, f2, e1, e2, e3⟩ := shelf_pre (W := W) (g := g) hw
  have x5 : (ws W w ((s.new (shC w .non (s.nx + 1))).new (.lst [])) g').m s.nx = some (.ins "Shelf" [("wood", .cell w), ("now", .non), ("past", .cell (s.nx + 1))]) := by
    rw [ws_ne (by omega)]; simp [Sto.new, shC]
  have e5 : sfldD (.cell s.nx) "now" t.d (ws W w ((s.new (shC w .non (s.nx + 1))).new (.lst [])) g') = some (ws W w ((s.new (shC w t.d (s.nx + 1))).new (.lst [])) g') := by
    unfold sfldD; simp only [x5]
    rw [if_pos (by show (3 : Nat) < 1000; decide)]
    exact congrArg some (sto_shelf2 hw)
  have n1 : ((((ws W w s g).new (.ins "Shelf" [])).set s.nx f1).set s.nx f2).nx = s.nx + 1 := rfl
  rw [runT_go [some (.cell s.nx), some (.cell w), some arg] H.init rfl rfl]
  simp only [d_Shelf_init, evSs_cons, evSs_nil, evS_sfld, evE_var, getV_s, getV_0, thenS_ok, e1, optS_some, nx_then, evE_non, e2, evE_lstC, evEs_nil, bind_ok, List.length_nil, if_pos (show (0 : Nat) ≤ sizeLine from Nat.zero_le _), n1, e3, evS_ifs, evE_cmp, isn, evE_call, evEs_cons, r, e5, endS_nx]
theorem S_new0 (H : HSh T) (hw : w < s.nx) {n : Nat} (g : Gh) : runT T (n + 1) (.m "Shelf" "__init__") [.cell s.nx, .cell w] ((ws W w s g).new (.ins "Shelf" [])) = .ok .non (ws W w ((s.new (shC w .non (s.nx + 1))).new (.lst [])) g) := by
  obtain ⟨f1, f2, e1, e2, e3⟩ := shelf_pre (W := W) (g := g) hw
  have n1 : ((((ws W w s g).new (.ins "Shelf" [])).set s.nx f1).set s.nx f2).nx = s.nx + 1 := rfl
  have isn : ∀ s, cmpD .isn .non .non s = .ok (.bl false) s := fun s => rfl
  rw [runT_go [some (.cell s.nx), some (.cell w), some .non] H.init rfl rfl]
  simp only [d_Shelf_init, evSs_cons, evSs_nil, evS_sfld, evE_var, getV_s, getV_0, thenS_ok, e1, optS_some, nx_then, evE_non, e2, evE_lstC, evEs_nil, bind_ok, List.length_nil, if_pos (show (0 : Nat) ≤ sizeLine from Nat.zero_le _), n1, e3, evS_ifs, evE_cmp, isn, endS_nx]
/-- the cells of a new shelf -/
theorem new_sh {c : Cell} {l : Cell} {i : Nat} (h : i < s.nx) : ((s.new c).new l).m i = s.m i := by
  rw [new_ne (by show i ≠ s.nx + 1; omega), new_ne (by omega)]
theorem new_at (hw : w < s.nx) {t : Tr} : ShAt ((s.new (shC w t.d (s.nx + 1))).new (.lst [])) w s.nx (s.nx + 1) t [] :=
  ⟨by rw [new_ne (by show s.nx ≠ s.nx + 1; omega)]; exact at_new, at_new (s := s.new _), by omega, by omega, by omega⟩
theorem S_newC (H : HSh T) {p : Nat} {xs : List D} (hx : ∀ z ∈ xs, W.Th z) (hl : xs.length ≤ 2000) (hpw : p ≠ w) (hp : s.m p = some (.lst xs)) (hpn : p < s.nx) (ok : GhOk g) (hk : k0 ≤ g.k) (hw : w < s.nx) {n : Nat} (hn : 40 ≤ n) :
    ∃ t g', runT T n (.m "Shelf" "__init__") [.cell s.nx, .cell w, .cell p] ((ws W w s g).new (.ins "Shelf" [])) = .ok .non (ws W w ((s.new (shC w t.d (s.nx + 1))).new (.lst [])) g') ∧ Stp g g' xs.length ∧ Fi W k0 S g' t ∧ t.things = xs := by
  obtain ⟨n, rfl⟩ : ∃ m, n = m + 1 := ⟨n - 1, by omega⟩
  obtain ⟨t, g', r, st, ft, tt, _⟩ := T_make_ofC (w := w) (s := (s.new (shC w .non (s.nx + 1))).new (.lst [])) (p := p) (k0 := k0) (S := S) H.e.p.n H.mb H.mo hx hl hpw ((new_sh hpn).trans hp) ok hk (n := n) (by omega)
  exact ⟨t, g', S_newG H hw (by simp [cmp_isn, isCell, liveC, (ws_ne (W := W) (g := g) hpw).trans ((new_sh (c := shC w .non (s.nx + 1)) (l := .lst []) hpn).trans hp)]) r, st, ft, tt⟩
/-- its things, told as a list that changes -/
theorem S_thingsC (H : HSh T) (ht : T (.f "things_of") = some d_things_of) {sh pc : Nat} {t : Tr} {ds : List D} (a : ShAt s w sh pc t ds) (gt : Good W t) (hc : t.cnt ≤ 2000) (hw : w < s.nx) {n : Nat} (hn : 2 ≤ n) (g : Gh) : ∃ s' f, runT T n (.m "Shelf" "things") [.cell sh] (ws W w s g) = .ok (.cell f) (ws W w s' g) ∧ s'.m f = some (.lst t.things) ∧ s.nx ≤ f ∧ f < s'.nx ∧ ∀ i, i < s.nx → i ≠ w → s'.m i = s.m i := by
  obtain ⟨n, rfl⟩ : ∃ m, n = m + 1 := ⟨n - 1, by omega⟩
  have h15 := gt.h15 hc
  obtain ⟨s', f, r, k, h1, h2, h3⟩ := R_thingsC ht gt (by omega) (by omega) (n := n) (by omega) (ws W w s g)
  have q := sh_ws (W := W) a g
  obtain ⟨s', rfl, n1, m1⟩ := kep_ws k hw
  rw [ws_nx] at h2
  refine ⟨s', f, ?_, (ws_ne (by omega)).symm.trans h1, h2, h3, m1⟩
  rw [runT_at H.things]
  simp [d_Shelf_things, envOf, q, fldD, r]
theorem S_deedsC (hd : T (.m "Shelf" "deeds") = some d_Shelf_deeds_2) {sh pc : Nat} {t : Tr} {ds : List D} (a : ShAt s w sh pc t ds) (hw : w < s.nx) {n : Nat} (hn : 1 ≤ n) (g : Gh) : runT T n (.m "Shelf" "deeds") [.cell sh] (ws W w s g) = .ok (.cell s.nx) (ws W w (s.new (.lst ds)) g) := by
  obtain ⟨n, rfl⟩ : ∃ m, n = m + 1 := ⟨n - 1, by omega⟩
  have q := sh_ws (W := W) a g
  have q2 : (ws W w s g).m pc = some (.lst ds) := (ws_ne a.pw).trans a.hp
  have bl : bltD .listC [.cell pc] (ws W w s g) = .ok (.cell s.nx) (ws W w (s.new (.lst ds)) g) := by
    rw [← ws_newS hw]
    simp [bltD, seqOf, q2]
    rfl
  rw [runT_at hd]
  simp [d_Shelf_deeds_2, envOf, q, fldD, bl]
theorem eqD_cellL {s : Sto} {p : Nat} {xs : List D} {d : D} (h : s.m p = some (.lst xs)) : eqD s (.cell p) d = eqD s (.lst xs) d := by
  unfold eqD; simp only [h]
theorem eqD_cellR {s : Sto} {p : Nat} {xs ys : List D} (h : s.m p = some (.lst xs)) : eqD s (.lst ys) (.cell p) = eqD s (.lst ys) (.lst xs) := by
  unfold eqD; simp only [h]
end MP
/-! S8: shelves laid and cut; deeds that are refused. -/
namespace MP
open PySem
variable {T : FK → Option Def} {W : Way T} {w : Nat} {s : Sto} {g : Gh} {k0 : Int} {S : Tr → Prop}

structure HSl (T : FK → Option Def) : Prop where
  h : HSh T
  laidr : T (.f "laid_rows") = some d_laid
  cutr : T (.f "cut_rows") = some d_cut
  laid : T (.m "Shelf" "laid") = some d_Shelf_laid
  cut : T (.m "Shelf" "cut") = some d_Shelf_cut_2
section
variable {sh pc : Nat} {t : Tr} {ds : List D}
/-- the method hold means something -/
theorem hold_some (H : HSh T) {n : Nat} (hn : 1 ≤ n) : ∃ ys s3, runT T n (.m "Shelf" "hold") ys s3 ≠ .bad := by
  obtain ⟨n, rfl⟩ : ∃ m, n = m + 1 := ⟨n - 1, by omega⟩
  let s0 : Sto := ⟨3, fun j => if j = 0 then some (shC 2 .non 1) else if j = 1 then some (.lst []) else none⟩
  have r := run_hold (T := T) (w := 2) (s := s0) (sh := 0) (pc := 1) (m0 := .non) (m := .non) (dd := .tup []) (ds := []) H.hold (n := n) rfl rfl (by decide) rfl rfl (by decide)
  exact ⟨_, _, by rw [r]; exact fun z => by cases z⟩
theorem hold0_ws (H : HSh T) (a : ShAt s w sh pc t ds) {n : Nat} {m : D} {g : Gh} : runT T (n + 1) (.m "Shelf" "hold") [.cell sh, m, .non] (ws W w s g) = .ok .non (ws W w (s.set sh (shC w m pc)) g) := by
  have q : (ws W w s g).m sh = some (.ins "Shelf" [("wood", .cell w), ("now", t.d), ("past", .cell pc)]) := (ws_ne a.nw).trans a.hs
  have e1 : sfldD (.cell sh) "now" m (ws W w s g) = some (ws W w (s.set sh (shC w m pc)) g) := by
    rw [← ws_out a.nw]
    simp [sfldD, q, putF, shC]
  rw [runT_go [some (.cell sh), some m, some .non] H.hold rfl rfl]
  have isn : ∀ s, cmpD .isn .non .non s = .ok (.bl false) s := fun s => rfl
  simp only [d_Shelf_hold, evSs_cons, evSs_nil, evS_sfld, evE_var, getV_s, getV_0, thenS_ok, e1, optS_some, nx_then, evS_ifs, evE_cmp, evE_non, bind_ok, isn, endS_nx]
/-- laid behind: another shelf of the wood, or itself -/
theorem S_laid (H : HSl T) (a : ShAt s w sh pc t ds) {so po : Nat} {u : Tr} {es : List D} (b : ShAt s w so po u es) (ok : GhOk g) (hk : k0 ≤ g.k) (ft : Fi W k0 S g t) (fu : Fi W k0 S g u) (hc : t.cnt + u.cnt ≤ 2000) (hl : ds.length < 16777216) {n : Nat} (hn : 60 ≤ n) :
    ∃ v g' c, runT T n (.m "Shelf" "laid") [.cell sh, .cell so] (ws W w s g) = .ok .non (ws W w (shP s w sh pc v.d (ds ++ [.tup [.str "laid", .int u.cnt]])) g') ∧ Stp g g' c ∧ Fi W k0 S g' v ∧ v.things = t.things ++ u.things := by
  obtain ⟨n, rfl⟩ : ∃ m, n = m + 2 := ⟨n - 2, by omega⟩
  have h15 := ft.good.h15 (by omega)
  have h15u := fu.good.h15 (by omega)
  obtain ⟨v, g', r, st, fv, tv, _⟩ := R_laid_rows (w := w) (s := s) H.h.e H.h.wl H.h.both H.laidr ok hk ft fu hc (n := n + 1) (by omega)
  have hd := hold_ws (W := W) H.h a (n := n) (m := v.d) (dd := .tup [.str "laid", .int u.cnt]) (g := g') rfl rfl hl
  have q := sh_ws (W := W) a g
  have qo := sh_ws (W := W) b g
  have mk := S_make (W := W) H.h b (n := n + 1) (by omega) g
  have z := fun s => cntR H.h.e.p.n fu.good (n := n + 1) (by omega) s
  refine ⟨v, g', _, ?_, st, fv, tv⟩
  have l2 : (2 : Nat) ≤ sizeLine := by show 2 ≤ 16777216; decide
  have f1 : ∀ g : Gh, (ws W w s g).m sh = some (.ins "Shelf" [("wood", .cell w), ("now", t.d), ("past", .cell pc)]) := fun g => sh_ws a g
  rw [runT_at H.laid]
  simp [d_Shelf_laid, envOf, q, qo, mk, fldD, r, z, hd]
theorem S_cut (H : HSl T) (a : ShAt s w sh pc t ds) {j : Nat} (ok : GhOk g) (hk : k0 ≤ g.k) (ft : Fi W k0 S g t) (hc : t.cnt ≤ 2000) (hj : j ≤ t.cnt) (hl : ds.length < 16777216) (hw : w < s.nx) (h1 : sh < s.nx) (h2 : pc < s.nx) {n : Nat} (hn : 60 ≤ n) :
    ∃ u v g' c s', runT T n (.m "Shelf" "cut") [.cell sh, .int j] (ws W w s g) = .ok (.cell s.nx) (ws W w s' g') ∧ Stp g g' c ∧ Fi W k0 S g' u ∧ Fi W k0 S g' v ∧ u.things = t.things.take j ∧ v.things = t.things.drop j ∧
      s'.nx = s.nx + 2 ∧ ShAt s' w sh pc u (ds ++ [.tup [.str "cut", .int j]]) ∧ ShAt s' w s.nx (s.nx + 1) v [] ∧ ∀ i, i < s.nx → i ≠ sh → i ≠ pc → s'.m i = s.m i := by
  obtain ⟨n, rfl⟩ : ∃ m, n = m + 2 := ⟨n - 2, by omega⟩
  have h15 := ft.good.h15 (by omega)
  obtain ⟨u, v, g', r, st, fu, fv, tu, tv, _⟩ := R_cut_rows (w := w) (s := s) H.h.e H.h.ask H.h.cutat H.cutr ok hk ft hc hj (n := n + 1) (by omega)
  have hd := hold_ws (W := W) H.h a (n := n) (m := u.d) (dd := .tup [.str "cut", .int j]) (g := g') rfl rfl hl
  have q := sh_ws (W := W) a g
  have q' := sh_ws (W := W) a g'
  let s1 := shP s w sh pc u.d (ds ++ [.tup [.str "cut", .int j]])
  have n1 : s1.nx = s.nx := rfl
  have a1 : ShAt s1 w sh pc u (ds ++ [.tup [.str "cut", .int j]]) := a.shP
  have q1 := sh_ws (W := W) a1 g'
  have nw := S_new0 (W := W) H.h (w := w) (s := s1) hw (n := n) g'
  let s2 := (s1.new (shC w .non (s1.nx + 1))).new (.lst [])
  have at2 : ShAt s2 w s.nx (s.nx + 1) .nil [] := new_at (t := .nil) (w := w) (s := s1) hw
  have h0 := hold0_ws (W := W) H.h at2 (n := n) (m := v.d) (g := g')
  have q2 := sh_ws (W := W) at2 g'
  let s3 := s2.set s.nx (shC w v.d (s.nx + 1))
  have k2 : ∀ i, i < s.nx → s2.m i = s1.m i := fun i hi => new_sh (c := shC w .non (s1.nx + 1)) (l := .lst []) (s := s1) hi
  refine ⟨u, v, g', _, s3, ?_, st, fu, fv, tu, tv, rfl, ?_, ?_, fun i h1 h2 h3 => ?_⟩
  · have f1 : fldD (.cell sh) "wood" (ws W w s g) = .ok (.cell w) (ws W w s g) := by simp [fldD, q]
    have f2 : fldD (.cell sh) "now" (ws W w s g) = .ok t.d (ws W w s g) := by simp [fldD, q]
    have f3 : fldD (.cell sh) "wood" (ws W w s1 g') = .ok (.cell w) (ws W w s1 g') := by simp [fldD, q1]
    have u2 : unpD [2, 3] (.tup [u.d, v.d]) [some (.cell sh), some (.int j), none, none, none] (ws W w s g') = .nx [some (.cell sh), some (.int j), some u.d, some v.d, none] (ws W w s g') := by simp [unpD, putAll]
    have l2 : (2 : Nat) ≤ sizeLine := by show 2 ≤ 16777216; decide
    rw [runT_go [some (.cell sh), some (.int j), none, none, none] H.cut rfl rfl]
    have hd' : runT T (n + 1) (.m "Shelf" "hold") [.cell sh, u.d, .tup [.str "cut", .int j]] (ws W w s g') = .ok .non (ws W w s1 g') := hd
    have nw' : runT T (n + 1) (.m "Shelf" "__init__") [.cell s.nx, .cell w] ((ws W w s1 g').new (.ins "Shelf" [])) = .ok .non (ws W w s2 g') := nw
    have nx1 : (ws W w s1 g').nx = s.nx := rfl
    simp only [d_Shelf_cut_2, evSs_cons, evSs_nil, evS_unp, evE_call, evEs_cons, evEs_nil, evE_fld, evE_var, getV_s, getV_0, bind_ok, f1, f2, r, thenS_ok, u2, nx_then, evS_expr, evE_meth, q', lk_shelf (m := "hold"), evE_tup, evE_str, List.length_cons, List.length_nil, if_pos l2, noexc_ok, hd', evS_asg, evE_mk, f3, nx1, nw', setE_s, setE_0, q2, evE_non, h0, evS_ret, rt_then, endS_rt, s3]
  · exact a1.frame (((set_ne (by omega)).trans (k2 sh h1))) ((set_ne (by omega)).trans (k2 pc h2))
  · refine ⟨by simp [s3], ?_, by omega, at2.nw, at2.pw⟩
    show (Sto.set _ _ _).m _ = _
    rw [set_ne (by omega)]; exact at2.hp
  · show (Sto.set _ _ _).m i = _
    rw [set_ne (by omega), k2 i h1]
    exact shP_ne h2 h3
/-! ### refused -/
theorem rows_no (H : HSh T) {t : Tr} (gt : Good W t) {j a b : Int} (hb : b = t.cnt ∨ b = t.cnt - 1) (hj : j < 0 ∨ b < j) {n : Nat} (hn : 1 ≤ n) (s : Sto) : runT T n (.f "ask_place") [.int j, .int 0, .int b] s = .exc ⟨"NoPlace", []⟩ s :=
  ask_no H.ask hj hn s
theorem S_put_no (H : HSh T) (a : ShAt s w sh pc t ds) (gt : Good W t) {j : Int} {x : D} (hj : j < 0 ∨ (t.cnt : Int) < j) {n : Nat} (hn : 20 ≤ n) (g : Gh) :
    runT T n (.m "Shelf" "put") [.cell sh, .int j, x] (ws W w s g) = .exc ⟨"NoPlace", []⟩ (ws W w s g) := by
  obtain ⟨n, rfl⟩ : ∃ m, n = m + 2 := ⟨n - 2, by omega⟩
  have z := fun s => cntR H.e.p.n gt (n := n) (by omega) s
  have q := sh_ws (W := W) a g
  have no := fun s => ask_no H.ask (p := j) (a := 0) (b := (t.cnt : Int)) hj (n := n) (by omega) s
  have r : runT T (n + 1) (.f "put_rows") [.cell w, t.d, .int j, x] (ws W w s g) = .exc ⟨"NoPlace", []⟩ (ws W w s g) := by
    rw [runT_at H.putr]
    simp [d_put, envOf, z, no]
  have ne := noexc_exc (α := List D) (x := ⟨"NoPlace", []⟩) (s := ws W w s g) (hold_some H (n := n + 1) (by omega))
  have f1 : fldD (.cell sh) "wood" (ws W w s g) = .ok (.cell w) (ws W w s g) := by simp [fldD, q]
  have f2 : fldD (.cell sh) "now" (ws W w s g) = .ok t.d (ws W w s g) := by simp [fldD, q]
  rw [runT_go [some (.cell sh), some (.int j), some x] H.put rfl rfl]
  simp only [d_Shelf_put, evSs_cons, evSs_nil, evS_expr, evE_meth, evE_var, getV_s, getV_0, bind_ok, q, lk_shelf (m := "hold"), evEs_cons, evEs_nil, evE_call, evE_fld, f1, f2, r, bind_exc, ne, thenS_exc, exc_then, endS_exc]
theorem S_put_full (H : HSh T) (a : ShAt s w sh pc t ds) (gt : Good W t) {j : Int} {x : D} (h0 : 0 ≤ j) (h1 : j ≤ (t.cnt : Int)) (hc : t.cnt = 2000) {n : Nat} (hn : 20 ≤ n) (g : Gh) :
    runT T n (.m "Shelf" "put") [.cell sh, .int j, x] (ws W w s g) = .exc ⟨"TooMany", []⟩ (ws W w s g) := by
  obtain ⟨n, rfl⟩ : ∃ m, n = m + 2 := ⟨n - 2, by omega⟩
  have z : ∀ s, runT T n (.f "size") [t.d] s = .ok (.int (t.cnt : Int)) s := fun s => cntR H.e.p.n gt (n := n) (by omega) s
  have q := sh_ws (W := W) a g
  have no : ∀ s, runT T n (.f "ask_place") [.int j, .int 0, .int (t.cnt : Int)] s = .ok .non s := fun s => ask_ok H.ask (p := j) (a := 0) (b := (t.cnt : Int)) h0 h1 (n := n) (by omega) s
  have r : runT T (n + 1) (.f "put_rows") [.cell w, t.d, .int j, x] (ws W w s g) = .exc ⟨"TooMany", []⟩ (ws W w s g) := by
    have c2 : (t.cnt : Int) = 2000 := by omega
    rw [c2] at no z
    rw [runT_at H.putr]
    simp [d_put, envOf, z, no]
  have ne := noexc_exc (α := List D) (x := ⟨"TooMany", []⟩) (s := ws W w s g) (hold_some H (n := n + 1) (by omega))
  have f1 : fldD (.cell sh) "wood" (ws W w s g) = .ok (.cell w) (ws W w s g) := by simp [fldD, q]
  have f2 : fldD (.cell sh) "now" (ws W w s g) = .ok t.d (ws W w s g) := by simp [fldD, q]
  rw [runT_go [some (.cell sh), some (.int j), some x] H.put rfl rfl]
  simp only [d_Shelf_put, evSs_cons, evSs_nil, evS_expr, evE_meth, evE_var, getV_s, getV_0, bind_ok, q, lk_shelf (m := "hold"), evEs_cons, evEs_nil, evE_call, evE_fld, f1, f2, r, bind_exc, ne, thenS_exc, exc_then, endS_exc]
theorem S_swap_no (H : HSh T) (a : ShAt s w sh pc t ds) (gt : Good W t) {j : Int} {x : D} (hj : j < 0 ∨ (t.cnt : Int) ≤ j) {n : Nat} (hn : 20 ≤ n) (g : Gh) :
    runT T n (.m "Shelf" "swap") [.cell sh, .int j, x] (ws W w s g) = .exc ⟨"NoPlace", []⟩ (ws W w s g) := by
  obtain ⟨n, rfl⟩ : ∃ m, n = m + 2 := ⟨n - 2, by omega⟩
  have z := fun s => cntR H.e.p.n gt (n := n) (by omega) s
  have q := sh_ws (W := W) a g
  have no := fun s => ask_no H.ask (p := j) (a := 0) (b := (t.cnt : Int) - 1) (by omega) (n := n) (by omega) s
  have r : runT T (n + 1) (.f "swapped") [.cell w, t.d, .int j, x] (ws W w s g) = .exc ⟨"NoPlace", []⟩ (ws W w s g) := by
    rw [runT_at H.swapped]
    simp [d_swapped, envOf, z, no]
  have ne := noexc_exc (α := List D) (x := ⟨"NoPlace", []⟩) (s := ws W w s g) (hold_some H (n := n + 1) (by omega))
  have f1 : fldD (.cell sh) "wood" (ws W w s g) = .ok (.cell w) (ws W w s g) := by simp [fldD, q]
  have f2 : fldD (.cell sh) "now" (ws W w s g) = .ok t.d (ws W w s g) := by simp [fldD, q]
  rw [runT_go [some (.cell sh), some (.int j), some x] H.swap rfl rfl]
  simp only [d_Shelf_swap, evSs_cons, evSs_nil, evS_expr, evE_meth, evE_var, getV_s, getV_0, bind_ok, q, lk_shelf (m := "hold"), evEs_cons, evEs_nil, evE_call, evE_fld, f1, f2, r, bind_exc, ne, thenS_exc, exc_then, endS_exc]
theorem S_out_no (H : HSh T) (a : ShAt s w sh pc t ds) (gt : Good W t) {j : Int} (hj : j < 0 ∨ (t.cnt : Int) ≤ j) {n : Nat} (hn : 20 ≤ n) (g : Gh) :
    runT T n (.m "Shelf" "out") [.cell sh, .int j] (ws W w s g) = .exc ⟨"NoPlace", []⟩ (ws W w s g) := by
  obtain ⟨n, rfl⟩ : ∃ m, n = m + 2 := ⟨n - 2, by omega⟩
  have z := fun s => cntR H.e.p.n gt (n := n) (by omega) s
  have q := sh_ws (W := W) a g
  have no := fun s => ask_no H.ask (p := j) (a := 0) (b := (t.cnt : Int) - 1) (by omega) (n := n) (by omega) s
  have r : runT T (n + 1) (.f "out_rows") [.cell w, t.d, .int j] (ws W w s g) = .exc ⟨"NoPlace", []⟩ (ws W w s g) := by
    rw [runT_at H.outr]
    simp [d_out, envOf, z, no]
  have f1 : fldD (.cell sh) "wood" (ws W w s g) = .ok (.cell w) (ws W w s g) := by simp [fldD, q]
  have f2 : fldD (.cell sh) "now" (ws W w s g) = .ok t.d (ws W w s g) := by simp [fldD, q]
  rw [runT_go [some (.cell sh), some (.int j), none, none] H.out rfl rfl]
  simp only [d_Shelf_out, evSs_cons, evSs_nil, evS_asg, evE_var, getV_s, getV_0, bind_ok, evEs_cons, evEs_nil, evE_call, evE_fld, f1, f2, r, bind_exc, thenS_exc, exc_then, endS_exc]
theorem ask_stretch_no (H : HN T) (ha : T (.f "ask_place") = some d_ask_place) (hp : T (.f "ask_stretch") = some d_ask_stretch) {t : Tr} (gt : Good W t) {i j : Int} (h : ¬ (0 ≤ i ∧ i ≤ j ∧ j ≤ (t.cnt : Int))) {n : Nat} (hn : 2 ≤ n) (s : Sto) : runT T n (.f "ask_stretch") [t.d, .int i, .int j] s = .exc ⟨"NoPlace", []⟩ s := by
  obtain ⟨n, rfl⟩ : ∃ m, n = m + 1 := ⟨n - 1, by omega⟩
  have z := cntR H gt (n := n) (by omega)
  rw [runT_at hp]
  by_cases hb : j < 0 ∨ (t.cnt : Int) < j
  · have q := ask_no ha (p := j) (a := 0) (b := (t.cnt : Int)) hb (n := n) (by omega)
    simp [d_ask_stretch, envOf, z, q]
  · have q := ask_ok ha (p := j) (a := 0) (b := (t.cnt : Int)) (by omega) (by omega) (n := n) (by omega)
    have q2 := ask_no ha (p := i) (a := 0) (b := j) (by omega) (n := n) (by omega)
    simp [d_ask_stretch, envOf, z, q, q2]
theorem S_turned_no (H : HSh T) (a : ShAt s w sh pc t ds) (gt : Good W t) {i j : Int} (hj : ¬ (0 ≤ i ∧ i ≤ j ∧ j ≤ (t.cnt : Int))) {n : Nat} (hn : 20 ≤ n) (g : Gh) :
    runT T n (.m "Shelf" "turned") [.cell sh, .int i, .int j] (ws W w s g) = .exc ⟨"NoPlace", []⟩ (ws W w s g) := by
  obtain ⟨n, rfl⟩ : ∃ m, n = m + 2 := ⟨n - 2, by omega⟩
  have q := sh_ws (W := W) a g
  have no := fun s => ask_stretch_no H.e.p.n H.ask H.stretch gt hj (n := n) (by omega) s
  have r : runT T (n + 1) (.f "turned_part") [.cell w, t.d, .int i, .int j] (ws W w s g) = .exc ⟨"NoPlace", []⟩ (ws W w s g) := by
    rw [runT_at H.tp]
    simp [d_turned_part, envOf, no]
  have ne := noexc_exc (α := List D) (x := ⟨"NoPlace", []⟩) (s := ws W w s g) (hold_some H (n := n + 1) (by omega))
  have f1 : fldD (.cell sh) "wood" (ws W w s g) = .ok (.cell w) (ws W w s g) := by simp [fldD, q]
  have f2 : fldD (.cell sh) "now" (ws W w s g) = .ok t.d (ws W w s g) := by simp [fldD, q]
  rw [runT_go [some (.cell sh), some (.int i), some (.int j)] H.turned rfl rfl]
  simp only [d_Shelf_turned, evSs_cons, evSs_nil, evS_expr, evE_meth, evE_var, getV_s, getV_0, bind_ok, q, lk_shelf (m := "hold"), evEs_cons, evEs_nil, evE_call, evE_fld, f1, f2, r, bind_exc, ne, thenS_exc, exc_then, endS_exc]
theorem S_cut_no (H : HSl T) (a : ShAt s w sh pc t ds) (gt : Good W t) {j : Int} (hj : j < 0 ∨ (t.cnt : Int) < j) {n : Nat} (hn : 20 ≤ n) (g : Gh) :
    runT T n (.m "Shelf" "cut") [.cell sh, .int j] (ws W w s g) = .exc ⟨"NoPlace", []⟩ (ws W w s g) := by
  obtain ⟨n, rfl⟩ : ∃ m, n = m + 2 := ⟨n - 2, by omega⟩
  have z := fun s => cntR H.h.e.p.n gt (n := n) (by omega) s
  have q := sh_ws (W := W) a g
  have no := fun s => ask_no H.h.ask (p := j) (a := 0) (b := (t.cnt : Int)) hj (n := n) (by omega) s
  have r : runT T (n + 1) (.f "cut_rows") [.cell w, t.d, .int j] (ws W w s g) = .exc ⟨"NoPlace", []⟩ (ws W w s g) := by
    rw [runT_at H.cutr]
    simp [d_cut, envOf, z, no]
  have f1 : fldD (.cell sh) "wood" (ws W w s g) = .ok (.cell w) (ws W w s g) := by simp [fldD, q]
  have f2 : fldD (.cell sh) "now" (ws W w s g) = .ok t.d (ws W w s g) := by simp [fldD, q]
  rw [runT_go [some (.cell sh), some (.int j), none, none, none] H.cut rfl rfl]
  simp only [d_Shelf_cut_2, evSs_cons, evSs_nil, evS_unp, evE_var, getV_s, getV_0, bind_ok, evEs_cons, evEs_nil, evE_call, evE_fld, f1, f2, r, bind_exc, thenS_exc, exc_then, endS_exc]
theorem S_laid_no (H : HSl T) (a : ShAt s w sh pc t ds) {so po : Nat} {u : Tr} {es : List D} (b : ShAt s w so po u es) (gt : Good W t) (gu : Good W u) (hc : 2000 < t.cnt + u.cnt) {n : Nat} (hn : 20 ≤ n) (g : Gh) :
    runT T n (.m "Shelf" "laid") [.cell sh, .cell so] (ws W w s g) = .exc ⟨"TooMany", []⟩ (ws W w s g) := by
  obtain ⟨n, rfl⟩ : ∃ m, n = m + 2 := ⟨n - 2, by omega⟩
  have z := fun s => cntR H.h.e.p.n gt (n := n) (by omega) s
  have zu := fun s => cntR H.h.e.p.n gu (n := n) (by omega) s
  have q := sh_ws (W := W) a g
  have qo := sh_ws (W := W) b g
  have mk := S_make (W := W) H.h b (n := n + 1) (by omega) g
  have c2 : (2000 : Int) < (t.cnt : Int) + u.cnt := by omega
  have r : runT T (n + 1) (.f "laid_rows") [.cell w, t.d, u.d] (ws W w s g) = .exc ⟨"TooMany", []⟩ (ws W w s g) := by
    rw [runT_at H.laidr]
    simp [d_laid, envOf, z, zu, c2]
  have ne := noexc_exc (α := List D) (x := ⟨"TooMany", []⟩) (s := ws W w s g) (hold_some H.h (n := n + 1) (by omega))
  have f1 : fldD (.cell sh) "wood" (ws W w s g) = .ok (.cell w) (ws W w s g) := by simp [fldD, q]
  have f2 : fldD (.cell sh) "now" (ws W w s g) = .ok t.d (ws W w s g) := by simp [fldD, q]
  rw [runT_go [some (.cell sh), some (.cell so), none] H.laid rfl rfl]
  simp only [d_Shelf_laid, evSs_cons, evSs_nil, evS_asg, evE_meth, evE_var, getV_s, getV_0, bind_ok, qo, lk_shelf (m := "make"), evEs_nil, noexc_ok, mk, thenS_ok, setE_s, setE_0, nx_then, evS_expr, q, lk_shelf (m := "hold"), evEs_cons, evE_call, evE_fld, f1, f2, r, bind_exc, ne, thenS_exc, exc_then, endS_exc]
/-- a shelf of too many things isn't made -/
theorem S_new_no (H : HSh T) {xs : List D} (hl : 2000 < xs.length) (hw : w < s.nx) {n : Nat} (hn : 20 ≤ n) (g : Gh) : ∃ s', runT T n (.m "Shelf" "__init__") [.cell s.nx, .cell w, .lst xs] ((ws W w s g).new (.ins "Shelf" [])) = .exc ⟨"TooMany", []⟩ (ws W w s' g) ∧ s.nx ≤ s'.nx ∧ ∀ i, i < s.nx → s'.m i = s.m i := by
  obtain ⟨n, rfl⟩ : ∃ m, n = m + 2 := ⟨n - 2, by omega⟩
  obtain ⟨f1, f2, e1, e2, e3⟩ := shelf_pre (W := W) (g := g) hw
  have n1 : ((((ws W w s g).new (.ins "Shelf" [])).set s.nx f1).set s.nx f2).nx = s.nx + 1 := rfl
  have r := make_of_many (T := T) H.mo hl (n := n) (w := w) (s := ws W w ((s.new (shC w .non (s.nx + 1))).new (.lst [])) g)
  have isn : ∀ s, cmpD .isn (.lst xs) .non s = .ok (.bl true) s := fun s => rfl
  refine ⟨(s.new (shC w .non (s.nx + 1))).new (.lst []), ?_, by show s.nx ≤ s.nx + 2; omega, fun i hi => new_sh (c := shC w .non (s.nx + 1)) (l := .lst []) hi⟩
  rw [runT_go [some (.cell s.nx), some (.cell w), some (.lst xs)] H.init rfl rfl]
  simp only [d_Shelf_init, evSs_cons, evSs_nil, evS_sfld, evE_var, getV_s, getV_0, thenS_ok, e1, optS_some, nx_then, evE_non, e2, evE_lstC, evEs_nil, bind_ok, List.length_nil, if_pos (show (0 : Nat) ≤ sizeLine from Nat.zero_le _), n1, e3, evS_ifs, evE_cmp, isn, evE_call, evEs_cons, r, thenS_exc, exc_then, endS_exc]
end
end MP
/-! K36: deeds that are refused. -/
namespace MP
open PySem
variable {T : FK → Option Def} {W : Way T} {w : Nat} {s : Sto} {g : Gh} {k0 : Int} {S : Tr → Prop}

structure H36 (T : FK → Option Def) : Prop where
  l : HSl T
  tof : T (.f "things_of") = some d_things_of_2
  deeds : T (.m "Shelf" "deeds") = some d_Shelf_deeds
  cell : T (.f "_law_cell") = some d_cell_3
  drawn : T (.f "_law_drawn") = some d_drawn
  thing : T (.f "_law_thing") = some d_thing_7
  amount : T (.f "_law_amount") = some d_amount
  deed : T (.f "_law_deed") = some d_deed_8
  bad : T (.f "_law_bad") = some d_bad
  kind : T (.f "_law_kind_of") = some d_kind_of_3
  refused : T (.f "_law_refused") = some d_refused_2
  more : T (.f "_law_more") = some d_more
  notmade : T (.f "_law_not_made") = some d_not_made
  full : T (.f "_law_full") = some d_full
theorem run_kind3p (h : T (.f "_law_kind_of") = some d_kind_of_3) {n : Nat} (hn : 1 ≤ n) (s : Sto) : runT T n (.f "_law_kind_of") [.ex "NoPlace"] s = .ok (.str "place") s := by
  obtain ⟨n, rfl⟩ : ∃ m, n = m + 1 := ⟨n - 1, by omega⟩
  have su : ∀ s, bltD .sum [.lst [.bl true, .bl false]] s = .ok (.int 1) s := fun _ => rfl
  have bi : ∀ s, bltD .int [.bl false] s = .ok (.int 0) s := fun _ => rfl
  rw [runT_at h]
  simp [d_kind_of_3, envOf, su, bi]
theorem run_kind3m (h : T (.f "_law_kind_of") = some d_kind_of_3) {n : Nat} (hn : 1 ≤ n) (s : Sto) : runT T n (.f "_law_kind_of") [.ex "TooMany"] s = .ok (.str "many") s := by
  obtain ⟨n, rfl⟩ : ∃ m, n = m + 1 := ⟨n - 1, by omega⟩
  have su : ∀ s, bltD .sum [.lst [.bl false, .bl true]] s = .ok (.int 1) s := fun _ => rfl
  have bi : ∀ s, bltD .int [.bl true] s = .ok (.int 1) s := fun _ => rfl
  rw [runT_at h]
  simp [d_kind_of_3, envOf, su, bi]
section
variable {sh pc : Nat} {t : Tr} {ds : List D}
theorem T_bad (H : H36 T) (a : ShAt s w sh pc t ds) (gt : Good W t) {v : Int} (h0 : 0 ≤ v) (h1 : v < 2 ^ 40) {q : Int} (hq : 0 ≤ q ∧ q < 7) {n : Nat} (hn : 30 ≤ n) (g : Gh) :
    runT T n (.f "_law_bad") [.cell sh, .int q, .int v, .int (t.cnt : Int)] (ws W w s g) = .exc ⟨"NoPlace", []⟩ (ws W w s g) := by
  obtain ⟨n, rfl⟩ : ∃ m, n = m + 1 := ⟨n - 1, by omega⟩
  have e30 : ∀ s, binD .pow (.int 10) (.int 30) s = .ok (.int (10 ^ 30)) s := fun s => rfl
  have hB : (0 : Int) < 10 ^ 30 := by decide
  generalize (10 : Int) ^ 30 = B at e30 hB
  have m2 : mulOk v B := mulL (by omega)
  have vB : 0 ≤ v * B := Int.mul_nonneg h0 (Int.le_of_lt hB)
  have i5 := emod_in (v := v) (m := 5) (by decide)
  have i3 := emod_in (v := v) (m := 3) (by decide)
  have i4 := emod_in (v := v) (m := 4) (by decide)
  have i2 := emod_in (v := v) (m := 2) (by decide)
  have j4 := emod_in (v := v / 5) (m := 4) (by decide)
  have j2 := emod_in (v := v / 20) (m := 2) (by decide)
  have fd5 : ∀ s, binD .fdiv (.int v) (.int 5) s = .ok (.int (v / 5)) s := fun s => bin_fdiv_lit (by decide) (by decide)
  have fd20 : ∀ s, binD .fdiv (.int v) (.int 20) s = .ok (.int (v / 20)) s := fun s => bin_fdiv_lit (by decide) (by decide)
  have fd3 : ∀ s, binD .fdiv (.int v) (.int 3) s = .ok (.int (v / 3)) s := fun s => bin_fdiv_lit (by decide) (by decide)
  obtain ⟨p, hp, rp⟩ : ∃ p : Int, (p < 0 ∨ (t.cnt : Int) < p) ∧ ∀ s, ixD (.lst [.int (-1 - v % 5), .int ((t.cnt : Int) + 1 + v % 5), .int ((t.cnt : Int) + (1 + v * B)), .int (0 - (1 + v * B))]) (.int (v / 5 % 4)) s = .ok (.int p) s := by
    rcases (by omega : v / 5 % 4 = 0 ∨ v / 5 % 4 = 1 ∨ v / 5 % 4 = 2 ∨ v / 5 % 4 = 3) with c | c | c | c
    · exact ⟨-1 - v % 5, .inl (by omega), fun s => by rw [c, ix_lst_0]; rfl⟩
    · exact ⟨(t.cnt : Int) + 1 + v % 5, .inr (by omega), fun s => by rw [c, ix_lst_1]; rfl⟩
    · exact ⟨(t.cnt : Int) + (1 + v * B), .inr (by omega), fun s => by rw [c, ix_lst_2]; rfl⟩
    · exact ⟨0 - (1 + v * B), .inl (by omega), fun s => by rw [c, ix_lst_3]; rfl⟩
  obtain ⟨o, ho, ro⟩ : ∃ o : Int, (o < 0 ∨ (t.cnt : Int) ≤ o) ∧ ∀ s, ixD (.lst [.int p, .int (t.cnt : Int)]) (.int (v / 20 % 2)) s = .ok (.int o) s := by
    rcases (by omega : v / 20 % 2 = 0 ∨ v / 20 % 2 = 1) with c | c
    · exact ⟨p, by omega, fun s => by rw [c, ix_lst_0]; rfl⟩
    · exact ⟨(t.cnt : Int), .inr (Int.le_refl _), fun s => by rw [c, ix_lst_1]; rfl⟩
  obtain ⟨b, rb⟩ : ∃ b : Int, ∀ s, ixD (.lst [.int 0, .int p]) (.int (v % 2)) s = .ok (.int b) s := by
    rcases (by omega : v % 2 = 0 ∨ v % 2 = 1) with c | c
    · exact ⟨_, fun s => by rw [c, ix_lst_0]; rfl⟩
    · exact ⟨_, fun s => by rw [c, ix_lst_1]; rfl⟩
  have l4 : (4 : Nat) ≤ sizeLine := by show 4 ≤ 16777216; decide
  have l2 : (2 : Nat) ≤ sizeLine := by show 2 ≤ 16777216; decide
  have e1 : evSs (runT T n) (takeS 3 d_bad.b) [some (.cell sh), some (.int q), some (.int v), some (.int (t.cnt : Int)), none, none, none] (ws W w s g) = .nx [some (.cell sh), some (.int q), some (.int v), some (.int (t.cnt : Int)), some (.int (1 + v * B)), some (.int p), some (.int o)] (ws W w s g) := by
    simp only [d_bad, takeS, evSs_cons, evSs_nil, evS_asg, evE_bin, evE_var, evE_int, evE_neg, getV_s, getV_0, bind_ok, e30, bin_mul, if_pos m2, bin_add, thenS_ok, setE_s, setE_0, nx_then, evE_ix, evE_lst, evEs_cons, evEs_nil, bin_mod, if_pos (show (0 : Int) < 5 by decide), bin_sub, List.length_cons, List.length_nil, if_pos l4, fd5, if_pos (show (0 : Int) < 4 by decide), rp, if_pos l2, fd20, if_pos (show (0 : Int) < 2 by decide), ro]
  rw [runT_go [some (.cell sh), some (.int q), some (.int v), some (.int (t.cnt : Int)), none, none, none] H.bad rfl rfl, seg 3 e1]
  clear e1
  have mq := sh_ws (W := W) a g
  have r0 := S_put_no (W := W) H.l.h a gt (x := .str "a") hp (n := n) (by omega) g
  have r1 := S_out_no (W := W) H.l.h a gt ho (n := n) (by omega) g
  have r2 := S_swap_no (W := W) H.l.h a gt (x := .str "a") ho (n := n) (by omega) g
  have r3 := S_turned_no (W := W) H.l.h a gt (i := b) (j := p) (by omega) (n := n) (by omega) g
  have k3 : (0 : Int) < 1 + v % 3 := by omega
  have ik := emod_in (v := v / 3) k3
  have r4 := S_turned_no (W := W) H.l.h a gt (i := 1 + v % 3) (j := v / 3 % (1 + v % 3)) (by omega) (n := n) (by omega) g
  have r5 := S_turned_no (W := W) H.l.h a gt (i := (t.cnt : Int) + 1 + v % 4) (j := (t.cnt : Int)) (by omega) (n := n) (by omega) g
  have r6 := S_cut_no (W := W) H.l a gt hp (n := n) (by omega) g
  have qs : ∀ k : Int, eqD (ws W w s g) (.int q) (.int k) = some (decide (q = k)) := fun k => eqD_int
  rcases (by omega : q = 0 ∨ q = 1 ∨ q = 2 ∨ q = 3 ∨ q = 4 ∨ q = 5 ∨ q = 6) with c | c | c | c | c | c | c
  · subst c
    simp only [d_bad, dropS, evSs_cons, evSs_nil, evS_ifs, evE_cmp, evE_var, evE_int, getV_s, getV_0, bind_ok, cmp_eq, eqD_int, decide_true, Option.map_some, okO_some, thenS_ok, evS_expr, evE_meth, mq, lk_shelf (m := "put"), evEs_cons, evEs_nil, evE_str, noexc_ok, r0, thenS_exc, exc_then, endS_exc]
  · subst c
    simp only [d_bad, dropS, evSs_cons, evSs_nil, evS_ifs, evE_cmp, evE_var, evE_int, getV_s, getV_0, bind_ok, cmp_eq, eqD_int, show decide ((1 : Int) = 0) = false from rfl, decide_true, Option.map_some, okO_some, thenS_ok, evS_expr, evE_meth, mq, lk_shelf (m := "out"), evEs_cons, evEs_nil, noexc_ok, r1, thenS_exc, exc_then, endS_exc]
  · subst c
    simp only [d_bad, dropS, evSs_cons, evSs_nil, evS_ifs, evE_cmp, evE_var, evE_int, getV_s, getV_0, bind_ok, cmp_eq, eqD_int, show decide ((2 : Int) = 0) = false from rfl, show decide ((2 : Int) = 1) = false from rfl, decide_true, Option.map_some, okO_some, thenS_ok, evS_expr, evE_meth, mq, lk_shelf (m := "swap"), evEs_cons, evEs_nil, evE_str, noexc_ok, r2, thenS_exc, exc_then, endS_exc]
  · subst c
    simp only [d_bad, dropS, evSs_cons, evSs_nil, evS_ifs, evE_cmp, evE_var, evE_int, getV_s, getV_0, bind_ok, cmp_eq, eqD_int, show decide ((3 : Int) = 0) = false from rfl, show decide ((3 : Int) = 1) = false from rfl, show decide ((3 : Int) = 2) = false from rfl, decide_true, Option.map_some, okO_some, thenS_ok, evS_expr, evE_meth, mq, lk_shelf (m := "turned"), evEs_cons, evEs_nil, evE_ix, evE_lst, evE_bin, bin_mod, if_pos (show (0 : Int) < 2 by decide), List.length_cons, List.length_nil, if_pos l2, rb, noexc_ok, r3, thenS_exc, exc_then, endS_exc]
  · subst c
    simp only [d_bad, dropS, evSs_cons, evSs_nil, evS_ifs, evE_cmp, evE_var, evE_int, getV_s, getV_0, bind_ok, cmp_eq, eqD_int, show decide ((4 : Int) = 0) = false from rfl, show decide ((4 : Int) = 1) = false from rfl, show decide ((4 : Int) = 2) = false from rfl, show decide ((4 : Int) = 3) = false from rfl, decide_true, Option.map_some, okO_some, thenS_ok, evS_expr, evE_meth, mq, lk_shelf (m := "turned"), evEs_cons, evEs_nil, evE_bin, bin_mod, if_pos (show (0 : Int) < 3 by decide), bin_add, fd3, if_pos k3, noexc_ok, r4, thenS_exc, exc_then, endS_exc]
  · subst c
    simp only [d_bad, dropS, evSs_cons, evSs_nil, evS_ifs, evE_cmp, evE_var, evE_int, getV_s, getV_0, bind_ok, cmp_eq, eqD_int, show decide ((5 : Int) = 0) = false from rfl, show decide ((5 : Int) = 1) = false from rfl, show decide ((5 : Int) = 2) = false from rfl, show decide ((5 : Int) = 3) = false from rfl, show decide ((5 : Int) = 4) = false from rfl, decide_true, Option.map_some, okO_some, thenS_ok, evS_expr, evE_meth, mq, lk_shelf (m := "turned"), evEs_cons, evEs_nil, evE_bin, bin_mod, if_pos (show (0 : Int) < 4 by decide), bin_add, noexc_ok, r5, thenS_exc, exc_then, endS_exc]
  · subst c
    simp only [d_bad, dropS, evSs_cons, evSs_nil, evS_ifs, evE_cmp, evE_var, evE_int, getV_s, getV_0, bind_ok, cmp_eq, eqD_int, show decide ((6 : Int) = 0) = false from rfl, show decide ((6 : Int) = 1) = false from rfl, show decide ((6 : Int) = 2) = false from rfl, show decide ((6 : Int) = 3) = false from rfl, show decide ((6 : Int) = 4) = false from rfl, show decide ((6 : Int) = 5) = false from rfl, Option.map_some, okO_some, thenS_ok, evS_expr, evE_meth, mq, lk_shelf (m := "cut"), evEs_cons, evEs_nil, noexc_ok, r6, thenS_exc, exc_then, endS_exc]
theorem T_refused2 (H : H36 T) (a : ShAt s w sh pc t ds) (gt : Good W t) {v : Int} (h0 : 0 ≤ v) (h1 : v < 2 ^ 40) {q : Int} (hq : 0 ≤ q ∧ q < 7) {n : Nat} (hn : 40 ≤ n) (g : Gh) :
    runT T n (.f "_law_refused") [.cell sh, .int q, .int v, .int (t.cnt : Int)] (ws W w s g) = .ok (.bl true) (ws W w s g) := by
  obtain ⟨n, rfl⟩ : ∃ m, n = m + 1 := ⟨n - 1, by omega⟩
  have r := T_bad (W := W) H a gt h0 h1 hq (n := n) (by omega) g
  have rk := fun s => run_kind3p H.kind (n := n) (by omega) s
  have kt := keep_t (δ := [some (.cell sh), some (.int q), some (.int v), some (.int (t.cnt : Int)), some .non, none]) (s := ws W w s g) (i := 5) (j := 4) (C := "NoPlace") (subs := [("NoBalance", true), ("NoPlace", true), ("TooMany", true)]) (by simp) (by simp)
  rw [runT_go [some (.cell sh), some (.int q), some (.int v), some (.int (t.cnt : Int)), none, none] H.refused rfl rfl]
  simp only [d_refused_2, evSs_cons, evSs_nil, evS_asg, evE_non, thenS_ok, setE_s, setE_0, nx_then, evS_tryK, evS_expr, evE_call, evEs_cons, evEs_nil, evE_var, getV_s, getV_0, bind_ok, r, thenS_exc, exc_then, exc_onExc, kt, evS_ret, evE_cmp, evE_str, rk, cmp_eq, eqD_str, decide_true, Option.map_some, okO_some, rt_then, endS_rt]
theorem more_of (H : H36 T) {x y : D} {C z : Str} {j : Int} {st : Sto} {n : Nat} (hn : 40 ≤ n) (lk : List.lookup C [("NoBalance", true), ("NoPlace", true), ("TooMany", true)] = some true) (rk : ∀ s, runT T n (.f "_law_kind_of") [.ex C] s = .ok (.str z) s)
    (hs : (y = .non ∧ ∃ fs, st.m sh = some (.ins "Shelf" fs) ∧ fs.lookup (Str.ofString "put") = none ∧ runT T n (.m "Shelf" "put") [.cell sh, .int j, .str "a"] st = .exc ⟨C, []⟩ st) ∨ (∃ so : Nat, y = .cell so ∧ liveC st (.cell so) = true ∧ ∃ fs, st.m sh = some (.ins "Shelf" fs) ∧ fs.lookup (Str.ofString "laid") = none ∧ runT T n (.m "Shelf" "laid") [.cell sh, .cell so] st = .exc ⟨C, []⟩ st)) :
    runT T (n + 1) (.f "_law_more") [.cell sh, y, .int j] st = .ok (.str z) st := by
  have kt := keep_t (δ := [some (.cell sh), some y, some (.int j), some .non, none]) (s := st) (i := 4) (j := 3) (C := C) (subs := [("NoBalance", true), ("NoPlace", true), ("TooMany", true)]) lk (by simp)
  rw [runT_go [some (.cell sh), some y, some (.int j), none, none] H.more rfl rfl]
  rcases hs with ⟨rfl, fs, hm, hl, r⟩ | ⟨so, rfl, lv, fs, hm, hl, r⟩
  · have isn : ∀ s, cmpD .is .non .non s = .ok (.bl true) s := fun s => rfl
    simp only [d_more, evSs_cons, evSs_nil, evS_asg, evE_non, thenS_ok, setE_s, setE_0, nx_then, evS_tryK, evS_ifs, evE_cmp, evE_var, getV_s, getV_0, bind_ok, isn, evS_expr, evE_meth, hm, hl, evEs_cons, evEs_nil, evE_str, noexc_ok, r, thenS_exc, exc_then, exc_onExc, kt, evS_ret, evE_call, rk, rt_then, endS_rt]
  · have isn : cmpD .is (.cell so) .non st = .ok (.bl false) st := by rw [cmp_is]; simp [isCell, lv]
    simp only [d_more, evSs_cons, evSs_nil, evS_asg, evE_non, thenS_ok, setE_s, setE_0, nx_then, evS_tryK, evS_ifs, evE_cmp, evE_var, getV_s, getV_0, bind_ok, isn, evS_expr, evE_meth, hm, hl, evEs_cons, evEs_nil, noexc_ok, r, thenS_exc, exc_then, exc_onExc, kt, evS_ret, evE_call, rk, rt_then, endS_rt]
end
/-- one thing, some times -/
theorem rep_len {x : D} {k : Nat} : ((List.replicate k [x]).flatten).length = k := by simp
theorem rep_mem {x z : D} {k : Nat} (h : z ∈ (List.replicate k [x]).flatten) : z = x := by
  simp at h
  exact h.2
theorem rep_mul {x : D} {k : Nat} (hk : k ≤ 100000) (s : Sto) : binD .mul (.lst [x]) (.int (k : Int)) s = .ok (.lst (List.replicate k [x]).flatten) s := by
  rw [bin_mull, if_pos ⟨by omega, by omega, by simp; omega⟩]
  simp
theorem T_notmade (H : H36 T) (hw : w < s.nx) {n : Nat} (hn : 40 ≤ n) (g : Gh) : ∃ s', runT T n (.f "_law_not_made") [.cell w] (ws W w s g) = .ok (.bl true) (ws W w s' g) ∧ s.nx ≤ s'.nx ∧ ∀ i, i < s.nx → s'.m i = s.m i := by
  obtain ⟨n, rfl⟩ : ∃ m, n = m + 1 := ⟨n - 1, by omega⟩
  obtain ⟨s', r, x, k⟩ := S_new_no (W := W) H.l.h (xs := (List.replicate 2001 [D.str "x"]).flatten) (by rw [rep_len]; decide) hw (n := n) (by omega) g
  have rm := fun s => rep_mul (x := .str "x") (k := 2001) (by decide) s
  have rk := fun s => run_kind3m H.kind (n := n) (by omega) s
  have kt := keep_t (δ := [some (.cell w), some .non, none]) (s := ws W w s' g) (i := 2) (j := 1) (C := "TooMany") (subs := [("NoBalance", true), ("NoPlace", true), ("TooMany", true)]) (by simp) (by simp)
  refine ⟨s', ?_, x, k⟩
  generalize (List.replicate 2001 [D.str "x"]).flatten = xs at r rm
  have rm' : ∀ s, binD .mul (.lst [.str "x"]) (.int 2001) s = .ok (.lst xs) s := rm
  have wn : (ws W w s g).nx = s.nx := rfl
  have l1 : (1 : Nat) ≤ sizeLine := by show 1 ≤ 16777216; decide
  rw [runT_go [some (.cell w), none, none] H.notmade rfl rfl]
  simp only [d_not_made, evSs_cons, evSs_nil, evS_asg, evE_non, thenS_ok, setE_s, setE_0, nx_then, evS_tryK, evS_expr, evE_mk, evEs_cons, evEs_nil, evE_var, getV_s, getV_0, bind_ok, evE_bin, evE_lst, evE_str, evE_int, List.length_cons, List.length_nil, if_pos l1, rm', wn, r, bind_exc, thenS_exc, exc_then, exc_onExc, kt, evS_ret, evE_cmp, evE_call, rk, cmp_eq, eqD_str, decide_true, Option.map_some, okO_some, rt_then, endS_rt]
end MP
/-! K36b: full shelves; the law of deeds that are refused. -/
namespace MP
open PySem
variable {T : FK → Option Def} {w : Nat} {s : Sto} {g : Gh}

theorem atI_last {xs : List D} {d : D} (h : xs.getLast? = some d) : L2.atI xs (-1) = some d := by
  obtain ⟨ys, rfl⟩ := List.getLast?_eq_some_iff.mp h
  unfold L2.atI L2.ixN
  have e : (-1 + ((ys.length : Int) + 1)).toNat = ys.length := by omega
  rw [if_neg (by omega)]
  simp [e]
  rw [if_pos (by omega)]
  simp
theorem thN_str {x : Str} (h : x.length ≤ 64) : (wayN T).Th (.str x) := ⟨.inr ⟨_, rfl⟩, h⟩
theorem rep_th {x : Str} (h : x.length ≤ 64) {k : Nat} : ∀ z ∈ (List.replicate k [D.str x]).flatten, (wayN T).Th z := fun z hz => by rw [rep_mem hz]; exact thN_str h
theorem T_full (H : H36 T) {sh pc : Nat} {t : Tr} (a : ShAt s w sh pc t []) (hw : w < s.nx) (h1 : sh < s.nx) (h2 : pc < s.nx) {k0 : Int} (ok : GhOk g) (hk : k0 ≤ g.k) (ft : Fi (wayN T) k0 noS g t) (c1 : 1001 ≤ t.cnt) (c2 : t.cnt ≤ 2000) {c : Int} {n : Nat} (hn : 70 ≤ n) :
    ∃ st, runT T n (.f "_law_full") [.cell sh, .cell w, .int c] (ws (wayN T) w s g) = .ok (.bl true) st := by
  obtain ⟨n, rfl⟩ : ∃ m, n = m + 1 := ⟨n - 1, by omega⟩
  have tl := Tr.things_len t
  have l1 : (1 : Nat) ≤ sizeLine := by show 1 ≤ 16777216; decide
  have l2 : (2 : Nat) ≤ sizeLine := by show 2 ≤ 16777216; decide
  have l3 : (3 : Nat) ≤ sizeLine := by show 3 ≤ 16777216; decide
  have isn : ∀ s, cmpD .isn .non .non s = .ok (.bl false) s := fun s => rfl
  -- its things
  obtain ⟨s1', r1, k1⟩ := S_things (W := wayN T) H.l.h H.tof a ft.good c2 (n := n) (by omega) g
  obtain ⟨s1, rfl, x1, m1⟩ := kep_ws k1 hw
  have a1 := a.frame (m1 sh h1 a.nw) (m1 pc h2 a.pw)
  -- too many
  obtain ⟨s2, r2, x2, m2⟩ := T_notmade (W := wayN T) H (w := w) (s := s1) (by omega) (n := n) (by omega) g
  have a2 := a1.frame (m2 sh (by omega)) (m2 pc (by omega))
  have r3 := S_deeds (W := wayN T) H.deeds a2 (n := n) (by omega) g
  -- the rest
  obtain ⟨z0, hz0⟩ : ∃ z0, z0 = (List.replicate (2000 - t.cnt) [D.str "z"]).flatten := ⟨_, rfl⟩
  have lz : z0.length = 2000 - t.cnt := by rw [hz0, rep_len]
  obtain ⟨u3, g3, r4, st3, f3, t3⟩ := S_new (W := wayN T) (S := noS) (k0 := k0) H.l.h (xs := z0) (by rw [hz0]; exact rep_th (by decide)) (by omega) ok hk (w := w) (s := s2) (by omega) (n := n) (by omega)
  have cu3 := Tr.things_len u3
  rw [t3] at cu3
  have mz := fun s => rep_mul (x := .str "z") (k := 2000 - t.cnt) (by omega) s
  rw [← hz0] at mz
  have b3 := new_at (t := u3) (w := w) (s := s2) (by omega)
  have q3 := fun i (hi : i < s2.nx) => new_sh (c := shC w u3.d (s2.nx + 1)) (l := .lst []) hi
  have x3 : ((s2.new (shC w u3.d (s2.nx + 1))).new (.lst [])).nx = s2.nx + 2 := rfl
  generalize hs3 : (s2.new (shC w u3.d (s2.nx + 1))).new (.lst []) = s3 at r4 b3 q3 x3
  have a3 := a2.frame (q3 sh (by omega)) (q3 pc (by omega))
  have ft3 := ft.mono st3
  have k3 := Int.le_trans hk st3.le
  -- behind itself
  have lv3 : liveC (ws (wayN T) w s3 g3) (.cell sh) = true := by unfold liveC; simp only [sh_ws a3 g3]; rfl
  have kM := fun s => run_kind3m H.kind (n := n - 1) (by omega) s
  have kP := fun s => run_kind3p H.kind (n := n - 1) (by omega) s
  have n1 : n - 1 + 1 = n := by omega
  have r5 := more_of H (n := n - 1) (sh := sh) (x := .non) (j := 0) (st := ws (wayN T) w s3 g3) (by omega) (C := "TooMany") (by simp) kM (.inr ⟨sh, rfl, lv3, _, sh_ws a3 g3, lk_shelf (m := "laid"), S_laid_no (W := wayN T) H.l a3 a3 ft3.good ft3.good (by omega) (n := n - 1) (by omega) g3⟩)
  rw [n1] at r5
  -- one that is too long
  obtain ⟨y0, hy0⟩ : ∃ y0, y0 = (List.replicate (2001 - t.cnt) [D.str "y"]).flatten := ⟨_, rfl⟩
  have ly : y0.length = 2001 - t.cnt := by rw [hy0, rep_len]
  obtain ⟨u4, g4, r6, st4, f4, t4⟩ := S_new (W := wayN T) (S := noS) (k0 := k0) H.l.h (xs := y0) (by rw [hy0]; exact rep_th (by decide)) (by omega) st3.ok k3 (w := w) (s := s3) (by omega) (n := n) (by omega)
  have cu4 := Tr.things_len u4
  rw [t4] at cu4
  have my := fun s => rep_mul (x := .str "y") (k := 2001 - t.cnt) (by omega) s
  rw [← hy0] at my
  have b4 := new_at (t := u4) (w := w) (s := s3) (by omega)
  have q4 := fun i (hi : i < s3.nx) => new_sh (c := shC w u4.d (s3.nx + 1)) (l := .lst []) hi
  have x4 : ((s3.new (shC w u4.d (s3.nx + 1))).new (.lst [])).nx = s3.nx + 2 := rfl
  generalize hs4 : (s3.new (shC w u4.d (s3.nx + 1))).new (.lst []) = s4 at r6 b4 q4 x4
  have a4 := a3.frame (q4 sh (by omega)) (q4 pc (by omega))
  have br4 := b3.frame (q4 s2.nx (by omega)) (q4 (s2.nx + 1) (by omega))
  have ft4 := ft3.mono st4
  have k4 := Int.le_trans k3 st4.le
  have lv4 : liveC (ws (wayN T) w s4 g4) (.cell s3.nx) = true := by unfold liveC; simp only [sh_ws b4 g4]; rfl
  have r7 := more_of H (n := n - 1) (sh := sh) (x := .non) (j := 0) (st := ws (wayN T) w s4 g4) (by omega) (C := "TooMany") (by simp) kM (.inr ⟨s3.nx, rfl, lv4, _, sh_ws a4 g4, lk_shelf (m := "laid"), S_laid_no (W := wayN T) H.l a4 b4 ft4.good f4.good (by omega) (n := n - 1) (by omega) g4⟩)
  rw [n1] at r7
  -- it is as it was
  have r8 := S_deeds (W := wayN T) H.deeds a4 (n := n) (by omega) g4
  obtain ⟨s5', r9, k5⟩ := S_things (W := wayN T) H.l.h H.tof a4 ft4.good c2 (n := n) (by omega) g4
  obtain ⟨s5, rfl, x5, m5⟩ := kep_ws k5 (by omega)
  have a5 := a4.frame (m5 sh (by omega) a4.nw) (m5 pc (by omega) a4.pw)
  have br5 := br4.frame (m5 s2.nx (by omega) br4.nw) (m5 (s2.nx + 1) (by omega) br4.pw)
  -- the rest is laid behind
  obtain ⟨v6, g6, c6, r10, st6, f6, t6⟩ := S_laid (W := wayN T) H.l a5 br5 st4.ok k4 ft4 (f3.mono st4) (by omega) (by decide) (n := n) (by omega)
  have a6 : ShAt (shP s5 w sh pc v6.d ([] ++ [.tup [.str "laid", .int u3.cnt]])) w sh pc v6 ([] ++ [.tup [.str "laid", .int u3.cnt]]) := a5.shP
  have x6 : (shP s5 w sh pc v6.d ([] ++ [.tup [.str "laid", .int u3.cnt]])).nx = s5.nx := rfl
  generalize hs6 : shP s5 w sh pc v6.d ([] ++ [.tup [.str "laid", .int u3.cnt]]) = s6 at r10 a6 x6
  have k6 := Int.le_trans k4 st6.le
  have cv6 := Tr.things_len v6
  have lv6 : v6.things.length = 2000 := by rw [t6, List.length_append, tl, t3, lz]; omega
  -- no more
  have i1 := emod_in (v := c) (m := 2001) (by decide)
  have i9 := emod_in (v := c) (m := 9) (by decide)
  have i2 := emod_in (v := c) (m := 2000) (by decide)
  have r11 := more_of H (n := n - 1) (sh := sh) (x := .non) (j := c % 2001) (st := ws (wayN T) w s6 g6) (by omega) (C := "TooMany") (by simp) kM (.inl ⟨rfl, _, sh_ws a6 g6, lk_shelf (m := "put"), S_put_full (W := wayN T) H.l.h a6 f6.good (by omega) (by omega) (by omega) (n := n - 1) (by omega) g6⟩)
  rw [n1] at r11
  have r12 := more_of H (n := n - 1) (sh := sh) (x := .non) (j := 2001 + c % 9) (st := ws (wayN T) w s6 g6) (by omega) (C := "NoPlace") (by simp) kP (.inl ⟨rfl, _, sh_ws a6 g6, lk_shelf (m := "put"), S_put_no (W := wayN T) H.l.h a6 f6.good (by omega) (n := n - 1) (by omega) g6⟩)
  rw [n1] at r12
  -- the last one
  obtain ⟨s7', r13, k7⟩ := S_things (W := wayN T) H.l.h H.tof a6 f6.good (by omega) (n := n) (by omega) g6
  obtain ⟨s7, rfl, x7, m7⟩ := kep_ws k7 (by omega)
  have a7 := a6.frame (m7 sh (by omega) a6.nw) (m7 pc (by omega) a6.pw)
  obtain ⟨d, hd⟩ : ∃ d, v6.things[1999]? = some d := ⟨_, List.getElem?_eq_getElem (by omega)⟩
  have gl : v6.things.getLast? = some d := by rw [List.getLast?_eq_getElem?, lv6]; exact hd
  have ixl : ∀ s, ixD (.lst v6.things) (.int (-1)) s = .ok d s := fun s => by rw [ix_lst, atI_last gl]; rfl
  have thd := f6.good.th d (List.mem_of_getElem? hd)
  obtain ⟨v8, g8, c8, r14, st8, f8, t8⟩ := S_out (W := wayN T) H.l.h a7 st6.ok k6 f6 (by omega) (x := d) (j := 1999) hd (by simp) (n := n) (by omega)
  have a8 := a7.shP (u := v8) (es := ([] ++ [.tup [.str "laid", .int u3.cnt]]) ++ [.tup [.str "out", .int ((1999 : Nat) : Int)]])
  generalize hs8 : shP s7 w sh pc v8.d (([] ++ [.tup [.str "laid", .int u3.cnt]]) ++ [.tup [.str "out", .int ((1999 : Nat) : Int)]]) = s8 at r14 a8
  have x8 : s8.nx = s7.nx := by rw [← hs8]; rfl
  have k8 := Int.le_trans k6 st8.le
  have cv8 := Tr.things_len v8
  have lv8 : v8.things.length = 1999 := by rw [t8, List.length_append, List.length_take, List.length_drop]; omega
  obtain ⟨j, hj⟩ := Int.eq_ofNat_of_zero_le i2.1
  obtain ⟨v9, g9, c9, r15, st9, f9, t9⟩ := S_put (W := wayN T) H.l.h a8 st8.ok k8 f8 (x := .str "b") (thN_str (by decide)) (by omega) (j := j) (by omega) (by simp) (n := n) (by omega)
  have a9 := a8.shP (u := v9) (es := (([] ++ [.tup [.str "laid", .int u3.cnt]]) ++ [.tup [.str "out", .int ((1999 : Nat) : Int)]]) ++ [.tup [.str "put", .int (j : Int)]])
  generalize hs9 : shP s8 w sh pc v9.d ((([] ++ [.tup [.str "laid", .int u3.cnt]]) ++ [.tup [.str "out", .int ((1999 : Nat) : Int)]]) ++ [.tup [.str "put", .int (j : Int)]]) = s9 at r15 a9
  have x9 : s9.nx = s8.nx := by rw [← hs9]; rfl
  have cv9 := Tr.things_len v9
  have lv9 : v9.things.length = 2000 := by rw [t9, List.length_append, List.length_cons, List.length_take, List.length_drop]; omega
  have r16 := S_deeds (W := wayN T) H.deeds a9 (n := n) (by omega) g9
  obtain ⟨s10', r17, k10⟩ := S_things (W := wayN T) H.l.h H.tof a9 f9.good (by omega) (n := n) (by omega) g9
  refine ⟨s10', ?_⟩
  -- the run
  have qm : (2000 : Int) - (t.things.length : Int) = ((2000 - t.cnt : Nat) : Int) := by omega
  have qm1 : (2001 : Int) - (t.things.length : Int) = ((2001 - t.cnt : Nat) : Int) := by omega
  have wn : ∀ (s : Sto) (g : Gh), (ws (wayN T) w s g).nx = s.nx := fun s g => rfl
  have eq0 : ∀ s, eqD s (.lst []) (.lst []) = some true := fun s => rfl
  have qM : ∀ s, eqD s (.str "many") (.str "many") = some true := fun s => by rw [eqD_str]; rfl
  have qP : ∀ s, eqD s (.str "place") (.str "place") = some true := fun s => by rw [eqD_str]; rfl
  have qd : ∀ s, eqD s d d = some true := fun s => eqD_refl ((wayN T).pl thd.1) (by decide)
  rw [runT_go [some (.cell sh), some (.cell w), some (.int c), none, none, none, none, none] H.full rfl rfl]
  have e1 : evSs (runT T n) (takeS 4 d_full.b) [some (.cell sh), some (.cell w), some (.int c), none, none, none, none, none] (ws (wayN T) w s g) =
      .nx [some (.cell sh), some (.cell w), some (.int c), some (.int (t.things.length : Int)), some (.lst []), some (.cell s2.nx), none, none] (ws (wayN T) w s3 g3) := by
    simp -implicitDefEqProofs only [d_full, takeS, evSs_cons, evSs_nil, evS_asg, evE_blt, evEs_cons, evEs_nil, evE_meth, evE_var, getV_s, getV_0, bind_ok, sh_ws a g, lk_shelf (m := "things"), noexc_ok, r1, blt_len_lst, thenS_ok, setE_s, setE_0, nx_then, evS_ifs, evE_nt, evE_call, r2, Bool.not_true, sh_ws a2 g, lk_shelf (m := "deeds"), r3, evE_mk, evE_bin, evE_lst, evE_str, evE_int, List.length_cons, List.length_nil, if_pos l1, bin_sub, qm, mz, wn, r4]
  rw [seg 4 e1]
  clear e1
  have e2 : evSs (runT T n) (takeS 1 (dropS 4 d_full.b)) [some (.cell sh), some (.cell w), some (.int c), some (.int (t.things.length : Int)), some (.lst []), some (.cell s2.nx), none, none] (ws (wayN T) w s3 g3) =
      .nx [some (.cell sh), some (.cell w), some (.int c), some (.int (t.things.length : Int)), some (.lst []), some (.cell s2.nx), none, none] (ws (wayN T) w s4 g4) := by
    simp -implicitDefEqProofs only [d_full, takeS, dropS, evSs_cons, evSs_nil, evS_ifs, evE_orr, evOr_more, evOr_one, evE_cmp, evE_call, evEs_cons, evEs_nil, evE_var, evE_int, evE_str, getV_s, getV_0, bind_ok, r5, cmp_ne, qM, Option.map_some, okO_some, Bool.not_true, evE_mk, evE_bin, evE_lst, List.length_cons, List.length_nil, if_pos l1, bin_sub, qm1, my, wn, r6, r7, thenS_ok, nx_then]
  rw [seg 1 e2]
  clear e2
  have e3 : evSs (runT T n) (takeS 1 (dropS 1 (dropS 4 d_full.b))) [some (.cell sh), some (.cell w), some (.int c), some (.int (t.things.length : Int)), some (.lst []), some (.cell s2.nx), none, none] (ws (wayN T) w s4 g4) =
      .nx [some (.cell sh), some (.cell w), some (.int c), some (.int (t.things.length : Int)), some (.lst []), some (.cell s2.nx), none, none] (ws (wayN T) w s6 g6) := by
    simp -implicitDefEqProofs only [d_full, takeS, dropS, evSs_cons, evSs_nil, evS_ifs, evE_orr, evOr_more, evOr_one, evE_cmp, evE_meth, evE_blt, evEs_cons, evEs_nil, evE_var, evE_non, getV_s, getV_0, bind_ok, sh_ws a4 g4, lk_shelf (m := "deeds"), noexc_ok, r8, cmp_ne, eq0, Option.map_some, okO_some, Bool.not_true, lk_shelf (m := "things"), r9, blt_len_lst, eqD_int, decide_true, sh_ws a5 g4, lk_shelf (m := "laid"), r10, isn, thenS_ok, nx_then]
  rw [seg 1 e3]
  clear e3
  have e4 : evSs (runT T n) (takeS 2 (dropS 1 (dropS 1 (dropS 4 d_full.b)))) [some (.cell sh), some (.cell w), some (.int c), some (.int (t.things.length : Int)), some (.lst []), some (.cell s2.nx), none, none] (ws (wayN T) w s6 g6) =
      .nx [some (.cell sh), some (.cell w), some (.int c), some (.int (t.things.length : Int)), some (.lst []), some (.cell s2.nx), some d, none] (ws (wayN T) w s7 g6) := by
    simp -implicitDefEqProofs only [d_full, takeS, dropS, evSs_cons, evSs_nil, evS_ifs, evE_orr, evOr_more, evOr_one, evE_cmp, evE_call, evEs_cons, evEs_nil, evE_var, evE_non, evE_int, evE_str, evE_bin, getV_s, getV_0, bind_ok, bin_mod, bin_add, if_pos (show (0 : Int) < 2001 by decide), if_pos (show (0 : Int) < 9 by decide), r11, r12, cmp_ne, qM, qP, Option.map_some, okO_some, Bool.not_true, thenS_ok, nx_then, evS_asg, evE_ix, evE_meth, sh_ws a6 g6, lk_shelf (m := "things"), noexc_ok, r13, evE_neg, ixl, setE_s, setE_0]
  rw [seg 2 e4]
  clear e4
  have r14' : runT T n (.m "Shelf" "out") [.cell sh, .int 1999] (ws (wayN T) w s7 g6) = .ok d (ws (wayN T) w s8 g8) := r14
  have e5 : evSs (runT T n) (takeS 2 (dropS 2 (dropS 1 (dropS 1 (dropS 4 d_full.b))))) [some (.cell sh), some (.cell w), some (.int c), some (.int (t.things.length : Int)), some (.lst []), some (.cell s2.nx), some d, none] (ws (wayN T) w s7 g6) =
      .nx [some (.cell sh), some (.cell w), some (.int c), some (.int (t.things.length : Int)), some (.lst []), some (.cell s2.nx), some d, some (.lst [.tup [.str "laid", .int u3.cnt], .tup [.str "out", .int 1999], .tup [.str "put", .int (j : Int)]])] (ws (wayN T) w s9 g9) := by
    have eu : ((2000 - t.cnt : Nat) : Int) = (u3.cnt : Int) := by omega
    simp -implicitDefEqProofs only [d_full, takeS, dropS, evSs_cons, evSs_nil, evS_ifs, evE_orr, evOr_more, evOr_one, evE_cmp, evE_meth, evEs_cons, evEs_nil, evE_var, evE_non, evE_int, evE_str, evE_bin, getV_s, getV_0, bind_ok, sh_ws a7 g6, lk_shelf (m := "out"), noexc_ok, r14', cmp_ne, qd, Option.map_some, okO_some, Bool.not_true, sh_ws a8 g8, lk_shelf (m := "put"), bin_mod, if_pos (show (0 : Int) < 2000 by decide), hj, r15, isn, thenS_ok, nx_then, evS_asg, evE_lst, evE_tup, bin_sub, qm, eu, List.length_cons, List.length_nil, if_pos l2, if_pos l3, setE_s, setE_0]
  rw [seg 2 e5]
  clear e5
  have pd : ∀ d ∈ ([.tup [.str "laid", .int u3.cnt], .tup [.str "out", .int 1999], .tup [.str "put", .int (j : Int)]] : List D), Pln 2 d := fun d hd => by
    simp at hd
    rcases hd with rfl | rfl | rfl <;> exact (pln_tup (n := 1) (by simp)).mono (by decide)
  have qe : ∀ s, eqD s (.lst [.tup [.str "laid", .int u3.cnt], .tup [.str "out", .int 1999], .tup [.str "put", .int (j : Int)]]) (.lst [.tup [.str "laid", .int u3.cnt], .tup [.str "out", .int 1999], .tup [.str "put", .int (j : Int)]]) = some true := fun s => eqD_refl (n := 3) (pln_lst (n := 2) pd) (by decide)
  have r16' : runT T n (.m "Shelf" "deeds") [.cell sh] (ws (wayN T) w s9 g9) = .ok (.lst [.tup [.str "laid", .int u3.cnt], .tup [.str "out", .int 1999], .tup [.str "put", .int (j : Int)]]) (ws (wayN T) w s9 g9) := r16
  have ba : ∀ s, binD .add (.lst []) (.lst [.tup [.str "laid", .int u3.cnt], .tup [.str "out", .int 1999], .tup [.str "put", .int (j : Int)]]) s = .ok (.lst [.tup [.str "laid", .int u3.cnt], .tup [.str "out", .int 1999], .tup [.str "put", .int (j : Int)]]) s := fun s => by
    rw [bin_addl, if_pos (by show 3 ≤ 16777216; decide)]; rfl
  have q20 : ∀ s, eqD s (.int (v9.things.length : Int)) (.int 2000) = some true := fun s => by rw [eqD_int, decide_eq_true (by omega)]
  simp -implicitDefEqProofs only [d_full, dropS, evSs_cons, evSs_nil, evS_ret, evE_an, evAnd_more, evAnd_one, evE_cmp, evE_meth, evE_blt, evEs_cons, evEs_nil, evE_var, evE_int, evE_bin, getV_s, getV_0, bind_ok, sh_ws a9 g9, lk_shelf (m := "deeds"), noexc_ok, r16', ba, cmp_eq, qe, Option.map_some, okO_some, lk_shelf (m := "things"), r17, blt_len_lst, q20, thenS_ok, rt_then, endS_rt]
/-! ### the law -/
structure St36 (T : FK → Option Def) (s : Sto) (g : Gh) (p sh dc : Nat) (t : Tr) (xs ds : List D) : Prop where
  o : 0 < p ∧ p < sh ∧ sh + 1 < dc ∧ dc < s.nx
  a : ShAt s 0 sh (sh + 1) t ds
  hp : s.m p = some (.lst xs)
  hd : s.m dc = some (.lst ds)
  ok : GhOk g
  ft : Fi (wayN T) 0 noS g t
  tt : t.things = xs
  pd : ∀ d ∈ ds, Pln 2 d
theorem St36.dc {s : Sto} {g : Gh} {p sh dc : Nat} {t : Tr} {xs ds : List D} (h : St36 T s g p sh dc t xs ds) : Dc 0 sh (sh + 1) p dc := by
  obtain ⟨a1, a2, a3, a4⟩ := h.o
  exact ⟨by omega, by omega, by omega, by omega, by omega, by omega, by omega⟩
theorem St36.grow {s s' : Sto} {g : Gh} {p sh dc : Nat} {t : Tr} {xs ds : List D} (h : St36 T s g p sh dc t xs ds) (hn : s.nx ≤ s'.nx) (hm : ∀ i, i < s.nx → i ≠ 0 → s'.m i = s.m i) : St36 T s' g p sh dc t xs ds := by
  obtain ⟨a1, a2, a3, a4⟩ := h.o
  exact ⟨⟨a1, a2, a3, by omega⟩, h.a.frame (hm _ (by omega) (by omega)) (hm _ (by omega) (by omega)), (hm _ (by omega) (by omega)).trans h.hp, (hm _ (by omega) (by omega)).trans h.hd, h.ok, h.ft, h.tt, h.pd⟩
theorem St36.deed {s s' : Sto} {g g' : Gh} {c' : Nat} {p sh dc : Nat} {t t' : Tr} {xs xs' ds : List D} {dd : D} (h : St36 T s g p sh dc t xs ds) (st : Stp g g' c') (d : DeedTo (wayN T) 0 0 sh (sh + 1) p dc s s' g' xs xs' ds t' dd) : St36 T s' g' p sh dc t' xs' (ds ++ [dd]) := by
  obtain ⟨a1, a2, a3, a4⟩ := h.o
  exact ⟨⟨a1, a2, a3, by rw [d.nx]; exact a4⟩, d.sh, d.pl, d.dl, st.ok, d.fi, d.th, fun e he => by
    rcases List.mem_append.mp he with he | he
    · exact h.pd e he
    · rw [List.mem_singleton.mp he]; exact d.pln⟩
/-- the things and the deeds are those of the plain lists -/
theorem St36.asIs (H : H36 T) {s : Sto} {g : Gh} {p sh dc : Nat} {t : Tr} {xs ds : List D} (h : St36 T s g p sh dc t xs ds) (hc : xs.length ≤ 2000) {n : Nat} (hn : 10 ≤ n) :
    ∃ s', runT T n (.m "Shelf" "things") [.cell sh] (ws (wayN T) 0 s g) = .ok (.lst t.things) (ws (wayN T) 0 s' g) ∧ eqD (ws (wayN T) 0 s' g) (.lst t.things) (.cell p) = some true ∧ runT T n (.m "Shelf" "deeds") [.cell sh] (ws (wayN T) 0 s' g) = .ok (.lst ds) (ws (wayN T) 0 s' g) ∧ eqD (ws (wayN T) 0 s' g) (.lst ds) (.cell dc) = some true ∧ St36 T s' g p sh dc t xs ds := by
  obtain ⟨a1, a2, a3, a4⟩ := h.o
  have tl := Tr.things_len t
  rw [h.tt] at tl
  obtain ⟨s1', r1, k1⟩ := S_things (W := wayN T) H.l.h H.tof h.a h.ft.good (by omega) (n := n) (by omega) g
  obtain ⟨s1, rfl, x1, m1⟩ := kep_ws k1 (by omega)
  have h1 := h.grow x1 m1
  have thx := h.ft.good.th
  refine ⟨s1, r1, ?_, S_deeds (W := wayN T) H.deeds h1.a (n := n) (by omega) g, ?_, h1⟩
  · rw [eqD_cellR ((ws_ne (by omega)).trans h1.hp), h.tt]
    rw [h.tt] at thx
    exact eqD_refl (th_pln thx) (by decide)
  · rw [eqD_cellR ((ws_ne (by omega)).trans h1.hd)]
    exact eqD_refl (n := 3) (pln_lst (n := 2) h.pd) (by decide)
def bB36 : Ss := match dropS 7 d_law_25.b with | .cons (.for1 _ _ b) _ => b | _ => .nil
theorem loop_36 (H : H36 T) {ns : List Int} (hns : ns.length ≤ 63) {p sh dc : Nat} {e1 e2 e3 : Option D} : ∀ (js : List Nat) {s : Sto} {g : Gh} {t : Tr} {xs ds : List D} {M : Nat} {e7 e8 e9 : Option D}, (∀ j ∈ js, j < 100) → St36 T s g p sh dc t xs ds → xs.length ≤ M → M + js.length ≤ 400 → ds.length + js.length ≤ 100 →
    ∃ s' g' t' xs' ds' a7 a8 a9, forN (set1 7) (evSs (runT T 79) bB36) (js.map fun (k : Nat) => D.int k) [some (.scr ns), e1, e2, e3, some (.cell p), some (.cell sh), some (.cell dc), e7, e8, e9] (ws (wayN T) 0 s g) =
      .nx [some (.scr ns), e1, e2, e3, some (.cell p), some (.cell sh), some (.cell dc), a7, a8, a9] (ws (wayN T) 0 s' g') ∧ St36 T s' g' p sh dc t' xs' ds' ∧ xs'.length ≤ 400 := by
  intro js
  induction js with
  | nil => exact fun {s g t xs ds M e7 e8 e9} _ h h2 h3 _ => ⟨s, g, t, xs, ds, e7, e8, e9, rfl, h, by simp at h3; omega⟩
  | cons j js ih =>
    intro s g t xs ds M e7 e8 e9 hj h hM hM2 hd
    simp only [List.length_cons] at hM2 hd
    have j0 := hj j (List.mem_cons_self ..)
    obtain ⟨o1, o2, o3, o4⟩ := h.o
    obtain ⟨c, rc⟩ := run_cell3 H.cell hns (k := 4 + (j : Int)) (by omega) (by omega)
    obtain ⟨vs, lv, bv, rd⟩ := T_drawn H.drawn (c := c) (m := 2) (by decide) (n := 79) (by decide)
    obtain ⟨v, o, rfl⟩ : ∃ v o, vs = [v, o] := by
      cases vs with
      | nil => simp at lv
      | cons v vs => cases vs with
        | nil => simp at lv
        | cons o vs => cases vs with
          | nil => exact ⟨v, o, rfl⟩
          | cons _ _ => simp at lv
    have b1 := bv v (by simp)
    have b2 := bv o (by simp)
    obtain ⟨sd, rd, kd⟩ := rd (ws (wayN T) 0 s g)
    obtain ⟨s1, rfl, n1, m1⟩ := kep_ws kd (by omega)
    have h1 := h.grow n1 m1
    have tl := Tr.things_len t
    rw [h.tt] at tl
    have i7 := emod_in (v := v) (m := 7) (by decide)
    have rr := T_refused2 (W := wayN T) H h1.a h1.ft.good (v := v / 7) (by omega) (by omega) i7 (n := 79) (by decide) g
    have wl := w_len (W := wayN T) (g := g) (by omega : p ≠ 0) h1.hp
    rw [tl] at wl
    obtain ⟨s2, r2, q2, r3, q3, h2⟩ := h1.asIs H (by omega) (n := 79) (by decide)
    have rc := fun s => rc 79 s (by decide)
    have rd' : runT T 79 (.f "_law_drawn") [.int c, .int 2] (ws (wayN T) 0 s g) = .ok (.lst [.int v, .int o]) (ws (wayN T) 0 s1 g) := rd
    have fd7 : ∀ s, binD .fdiv (.int v) (.int 7) s = .ok (.int (v / 7)) s := fun s => bin_fdiv_lit (by decide) (by decide)
    have fd3 : ∀ s, binD .fdiv (.int o) (.int 3) s = .ok (.int (o / 3)) s := fun s => bin_fdiv_lit (by decide) (by decide)
    have u89 : ∀ s, unpD [8, 9] (.lst [.int v, .int o]) [some (.scr ns), e1, e2, e3, some (.cell p), some (.cell sh), some (.cell dc), some (.int (j : Int)), e8, e9] s = .nx [some (.scr ns), e1, e2, e3, some (.cell p), some (.cell sh), some (.cell dc), some (.int (j : Int)), some (.int v), some (.int o)] s := fun s => by simp [unpD, putAll]
    have e1' : evSs (runT T 79) (takeS 3 bB36) [some (.scr ns), e1, e2, e3, some (.cell p), some (.cell sh), some (.cell dc), some (.int (j : Int)), e8, e9] (ws (wayN T) 0 s g) =
        .nx [some (.scr ns), e1, e2, e3, some (.cell p), some (.cell sh), some (.cell dc), some (.int (j : Int)), some (.int v), some (.int o)] (ws (wayN T) 0 s2 g) := by
      simp only [bB36, d_law_25, dropS, takeS, evSs_cons, evSs_nil, evS_unp, evE_call, evEs_cons, evEs_nil, evE_var, evE_bin, evE_int, getV_s, getV_0, bind_ok, bin_add, rc, rd', thenS_ok, u89, nx_then, evS_ifs, evE_nt, bin_mod, if_pos (show (0 : Int) < 7 by decide), fd7, evE_blt, wl, rr, Bool.not_true, evE_orr, evOr_more, evOr_one, evE_cmp, evE_meth, sh_ws h1.a g, lk_shelf (m := "things"), noexc_ok, r2, cmp_ne, q2, Option.map_some, okO_some, sh_ws h2.a g, lk_shelf (m := "deeds"), r3, q3]
    obtain ⟨s3, g3, t3, xs3, ds3, r4, h3, l3, ld3⟩ : ∃ s3 g3 t3 xs3 ds3, evSs (runT T 79) (dropS 3 bB36) [some (.scr ns), e1, e2, e3, some (.cell p), some (.cell sh), some (.cell dc), some (.int (j : Int)), some (.int v), some (.int o)] (ws (wayN T) 0 s2 g) =
        .nx [some (.scr ns), e1, e2, e3, some (.cell p), some (.cell sh), some (.cell dc), some (.int (j : Int)), some (.int v), some (.int o)] (ws (wayN T) 0 s3 g3) ∧ St36 T s3 g3 p sh dc t3 xs3 ds3 ∧ xs3.length ≤ M + 1 ∧ ds3.length ≤ ds.length + 1 := by
      by_cases c3 : o % 3 = 0
      · have d3 := decide_eq_true c3
        obtain ⟨s3, g3, c4, t3, xs3, dd, r, st, d, l3⟩ := T_deed8 H.l.h H.thing H.deed h2.dc h2.a h2.hp h2.hd h2.ok h2.ok.nn h2.ft h2.tt (by omega) (by omega) (v := o / 3) (κ := (j : Int) % 2) (by omega) (by omega) (by omega) (n := 79) (by decide)
        refine ⟨s3, g3, t3, xs3, ds ++ [dd], ?_, h2.deed st d, by omega, by simp⟩
        simp only [bB36, d_law_25, dropS, evSs_cons, evSs_nil, evS_ifs, evE_an, evAnd_more, evAnd_one, evE_cmp, evE_bin, evE_var, evE_int, getV_s, getV_0, bind_ok, bin_mod, if_pos (show (0 : Int) < 3 by decide), cmp_eq, eqD_int, d3, Option.map_some, okO_some, evE_nt, evE_call, evEs_cons, evEs_nil, fd3, if_pos (show (0 : Int) < 2 by decide), r, Bool.not_true, thenS_ok, nx_then]
      · have d3 := decide_eq_false c3
        refine ⟨s2, g, t, xs, ds, ?_, h2, by omega, by omega⟩
        simp only [bB36, d_law_25, dropS, evSs_cons, evSs_nil, evS_ifs, evE_an, evAnd_more, evAnd_one, evE_cmp, evE_bin, evE_var, evE_int, getV_s, getV_0, bind_ok, bin_mod, if_pos (show (0 : Int) < 3 by decide), cmp_eq, eqD_int, d3, Option.map_some, okO_some, thenS_ok, nx_then]
    obtain ⟨s4, g4, t4, xs4, ds4, b7, b8, b9, r5, h4, l4⟩ := ih (e7 := some (.int (j : Int))) (e8 := some (.int v)) (e9 := some (.int o)) (fun i hi => hj i (List.mem_cons_of_mem _ hi)) h3 l3 (by omega) (by omega)
    refine ⟨s4, g4, t4, xs4, ds4, b7, b8, b9, ?_, h4, l4⟩
    rw [List.map_cons, forN_d]
    simp only [set1, nx_then, setE_s, setE_0]
    rw [split_at 3 bB36, e1', nx_then, r4, nx_then, r5]
theorem law_k36 (H : H36 T) (hI : T (.m "Wood" "__init__") = some d_Wood_init) (hl : T (.f "law") = some d_law_25) : Law T 80 := by
  intro ns hns
  obtain ⟨c0, r0⟩ := run_cell3 H.cell hns (k := 0) (by decide) (by decide)
  obtain ⟨c1, r1⟩ := run_cell3 H.cell hns (k := 1) (by decide) (by decide)
  obtain ⟨c2, r2⟩ := run_cell3 H.cell hns (k := 2) (by decide) (by decide)
  obtain ⟨c3, r3⟩ := run_cell3 H.cell hns (k := 3) (by decide) (by decide)
  obtain ⟨m0, hm0, ra⟩ := run_amount H.amount (c := c1)
  replace r0 := fun s => r0 79 s (by decide)
  replace r1 := fun s => r1 79 s (by decide)
  replace r2 := fun s => r2 79 s (by decide)
  replace r3 := fun s => r3 79 s (by decide)
  replace ra := fun s => ra 79 s (by decide)
  have im := emod_in (v := (m0 : Int)) (m := 61) (by decide)
  obtain ⟨m, hm⟩ := Int.eq_ofNat_of_zero_le im.1
  have l1 : (1 : Nat) ≤ sizeLine := by show 1 ≤ 16777216; decide
  have hiw := run_mkWood0 hI (n := 78)
  have z : sto0.nx = 0 := rfl
  rw [runT_go [some (.scr ns), none, none, none, none, none, none, none, none, none] hl rfl rfl]
  have e1 : evSs (runT T 79) (takeS 3 d_law_25.b) [some (.scr ns), none, none, none, none, none, none, none, none, none] sto0 = .nx [some (.scr ns), some (.cell 0), some (.int (m : Int)), some (.int c2), none, none, none, none, none, none] (ws (wayN T) 0 (stoW .non 0) g0) := by
    rw [show ws (wayN T) 0 (stoW .non 0) g0 = stoW .non 0 from (ws_g0 (W := wayN T)).symm]
    simp -implicitDefEqProofs only [d_law_25, takeS, evSs_cons, evSs_nil, evS_asg, evE_mk, evEs_nil, bind_ok, z, hiw, thenS_ok, setE_s, setE_0, nx_then, evE_bin, evE_call, evEs_cons, evE_var, evE_int, getV_s, getV_0, r1, ra, bin_mod, if_pos (show (0 : Int) < 61 by decide), hm, r2]
  rw [seg 3 e1]
  clear e1
  have fd8 : ∀ s, binD .fdiv (.int c2) (.int 8) s = .ok (.int (c2 / 8)) s := fun s => bin_fdiv_lit (by decide) (by decide)
  have wn : ∀ (s : Sto) (g : Gh), (ws (wayN T) 0 s g).nx = s.nx := fun s g => rfl
  by_cases h3 : c2 % 8 = 3
  · have d3 := decide_eq_true h3
    have i1 := emod_in (v := c2 / 8) (m := 1000) (by decide)
    obtain ⟨k, hk⟩ := Int.eq_ofNat_of_zero_le i1.1
    obtain ⟨xs, hxs⟩ : ∃ xs, xs = (List.replicate (1001 + k) [D.str "c"]).flatten := ⟨_, rfl⟩
    have lx : xs.length = 1001 + k := by rw [hxs, rep_len]
    have mc := fun s => rep_mul (x := .str "c") (k := 1001 + k) (by omega) s
    rw [← hxs] at mc
    obtain ⟨t, g1, rn, st1, ft, tt⟩ := S_new (W := wayN T) (S := noS) (k0 := 0) H.l.h (xs := xs) (by rw [hxs]; exact rep_th (by decide)) (by omega) g0_ok (by decide) (w := 0) (s := stoW .non 0) (by decide) (n := 79) (by decide)
    have at1 := new_at (t := t) (w := 0) (s := stoW .non 0) (by decide)
    have n1 : (stoW .non 0).nx = 1 := rfl
    have nS : (((stoW .non 0).new (shC 0 t.d ((stoW .non 0).nx + 1))).new (.lst [])).nx = 3 := rfl
    generalize ((stoW .non 0).new (shC 0 t.d ((stoW .non 0).nx + 1))).new (.lst []) = s1 at *
    have ct := Tr.things_len t
    rw [tt] at ct
    obtain ⟨st, rf⟩ := T_full H at1 (by omega) (by omega) (by omega) st1.ok (Int.le_trans (by decide : (0 : Int) ≤ g0.k) st1.le) ft (by omega) (by omega) (c := c3) (n := 79) (by decide)
    refine ⟨st, ?_⟩
    have ek : (1001 : Int) + (k : Int) = ((1001 + k : Nat) : Int) := by omega
    simp -implicitDefEqProofs only [d_law_25, dropS, evSs_cons, evSs_nil, evS_ifs, evE_cmp, evE_bin, evE_var, evE_int, getV_s, getV_0, bind_ok, bin_mod, if_pos (show (0 : Int) < 8 by decide), cmp_eq, eqD_int, d3, Option.map_some, okO_some, thenS_ok, evS_ret, evE_call, evEs_cons, evEs_nil, evE_mk, evE_lst, evE_str, List.length_cons, List.length_nil, if_pos l1, fd8, if_pos (show (0 : Int) < 1000 by decide), hk, bin_add, ek, mc, wn, rn, r3, rf, rt_then, endS_rt]
  · have d3 := decide_eq_false h3
    obtain ⟨vs, lv, bv, rd⟩ := T_drawn H.drawn (c := c0) (m := m) (by omega) (n := 79) (by decide)
    obtain ⟨xs, lx, tx, rx⟩ := lc_things7 H.thing (κ := fun v => v / 7 % 2) (fun v => by omega) bv (by omega)
    obtain ⟨sd, rd, kd⟩ := rd (ws (wayN T) 0 (stoW .non 0) g0)
    obtain ⟨s1, rfl, n1, t1⟩ := kep_ws kd (by decide)
    have n1 : 1 ≤ s1.nx := n1
    have fd7 : ∀ (v : Int) s, binD .fdiv (.int v) (.int 7) s = .ok (.int (v / 7)) s := fun v s => bin_fdiv_lit (by decide) (by decide)
    have lc0 := rx 79 8 (.call "_law_thing" (.cons (.var 8) (.cons (.bin .mod (.bin .fdiv (.var 8) (.int 7)) (.int 2)) .nil))) [some (.scr ns), some (.cell 0), some (.int (m : Int)), some (.int c2), none, none, none, none, none, none] (ws (wayN T) 0 s1 g0) (by decide) (fun v _ s => by simp [fd7])
    obtain ⟨p, hp⟩ : ∃ p, p = s1.nx := ⟨_, rfl⟩
    have p_new : (ws (wayN T) 0 s1 g0).new (.lst xs) = ws (wayN T) 0 (s1.new (.lst xs)) g0 := ws_newS (by omega)
    have pA : (s1.new (.lst xs)).m p = some (.lst xs) := by rw [hp]; exact at_new
    have nA : (s1.new (.lst xs)).nx = p + 1 := by rw [hp]; rfl
    generalize hsA : s1.new (.lst xs) = sA at *
    have wpA : (ws (wayN T) 0 sA g0).m p = some (.lst xs) := (ws_ne (by omega)).trans pA
    have bl : bltD .list [.cell p] (ws (wayN T) 0 sA g0) = .ok (.lst xs) (ws (wayN T) 0 sA g0) := by simp [bltD, seqOf, wpA]
    obtain ⟨t, g1, rn, st1, ft, tt⟩ := S_new (W := wayN T) (S := noS) (k0 := 0) H.l.h (xs := xs) tx (by omega) g0_ok (by decide) (w := 0) (s := sA) (by omega) (n := 79) (by decide)
    have new3 := fun i (hi : i < sA.nx) => new_sh (c := shC 0 t.d (sA.nx + 1)) (l := .lst []) hi
    have at3 := new_at (t := t) (w := 0) (s := sA) (by omega)
    have n3 : ((sA.new (shC 0 t.d (sA.nx + 1))).new (.lst [])).nx = sA.nx + 2 := rfl
    generalize hs3 : (sA.new (shC 0 t.d (sA.nx + 1))).new (.lst []) = s3 at rn new3 at3 n3
    let s4 := s3.new (.lst [])
    have d_new : (ws (wayN T) 0 s3 g1).new (.lst []) = ws (wayN T) 0 s4 g1 := ws_newS (by omega)
    have h4 : St36 T s4 g1 p sA.nx s3.nx t xs [] := ⟨⟨by omega, by omega, by omega, by show s3.nx < s3.nx + 1; omega⟩, at3.frame (new_ne (by omega)) (new_ne (by omega)), (new_ne (by omega)).trans ((new3 p (by omega)).trans pA), at_new (s := s3), st1.ok, ft, tt, fun d hd => nomatch hd⟩
    obtain ⟨s5, g5, t5, xs5, ds5, b7, b8, b9, rl, h5, l5⟩ := loop_36 H hns (List.range 12) (e1 := some (.cell 0)) (e2 := some (.int (m : Int))) (e3 := some (.int c2)) (e7 := none) (e8 := none) (e9 := none) (fun i hi => by have := List.mem_range.mp hi; omega) h4 (M := 300) (by omega) (by decide) (by decide)
    obtain ⟨s6, q1, q2, q3, q4, h6⟩ := h5.asIs H (by omega) (n := 79) (by decide)
    refine ⟨ws (wayN T) 0 s6 g5, ?_⟩
    have wn3 : (ws (wayN T) 0 s3 g1).nx = s3.nx := rfl
    have e2 : evSs (runT T 79) (takeS 4 (dropS 3 d_law_25.b)) [some (.scr ns), some (.cell 0), some (.int (m : Int)), some (.int c2), none, none, none, none, none, none] (ws (wayN T) 0 (stoW .non 0) g0) =
        .nx [some (.scr ns), some (.cell 0), some (.int (m : Int)), some (.int c2), some (.cell p), some (.cell sA.nx), some (.cell s3.nx), none, none, none] (ws (wayN T) 0 s4 g1) := by
      simp -implicitDefEqProofs only [d_law_25, takeS, dropS, evSs_cons, evSs_nil, evS_ifs, evE_cmp, evE_bin, evE_var, evE_int, getV_s, getV_0, bind_ok, bin_mod, if_pos (show (0 : Int) < 8 by decide), cmp_eq, eqD_int, d3, Option.map_some, okO_some, thenS_ok, nx_then, evS_asg, evE_lc, evW_seq, evE_call, evEs_cons, evEs_nil, r0, rd, seqW_lst, evC_none, setE_s, setE_0, lc0, if_true, p_new, wn, ← hp, evE_mk, evE_blt, bl, rn, evE_lstC, List.length_nil, if_pos (show (0 : Nat) ≤ sizeLine from Nat.zero_le _), d_new]
    rw [seg 4 e2]
    clear e2 rn lc0 rx rd
    have i62 : -(2 : Int) ^ 62 ≤ 12 ∧ (12 : Int) < 2 ^ 62 := by decide
    have rg : rngL 12 = (List.range 12).map fun (k : Nat) => D.int k := rfl
    show endS (evSs (runT T 79) (.cons (.for1 7 (.rng (.int 12)) bB36) (dropS 1 (dropS 4 (dropS 3 d_law_25.b)))) _ _) = _
    rw [evSs_cons, evS_for1, evW_rng, evE_int, bind_ok]
    dsimp only
    rw [if_pos i62, thenS_ok, rg, rl, nx_then]
    simp -implicitDefEqProofs only [d_law_25, dropS, evSs_cons, evSs_nil, evS_ret, evE_an, evAnd_more, evAnd_one, evE_cmp, evE_meth, evEs_nil, evE_var, getV_s, getV_0, bind_ok, sh_ws h5.a g5, lk_shelf (m := "things"), noexc_ok, q1, cmp_eq, q2, Option.map_some, okO_some, sh_ws h6.a g5, lk_shelf (m := "deeds"), q3, q4, thenS_ok, rt_then, endS_rt]
end MP
namespace Lw
open PySem PySem.Spec PyProof.Rows L2 LamX MP
def top (i : Nat) : Stmt := PySem.Challenge.pw_ownshelf_k36_deeds_refused.main.body.getD i (.Pass ⟨0, 0, 0, 0⟩)
abbrev s0 : Stmt := top 0
abbrev s1 : Stmt := top 2
abbrev s2 : Stmt := top 3
abbrev s3 : Stmt := top 4
abbrev s4 : Stmt := top 5
abbrev s5 : Stmt := top 6
abbrev s6 : Stmt := top 7
abbrev s7 : Stmt := top 25
abbrev s8 : Stmt := top 26
abbrev s9 : Stmt := top 27
abbrev s10 : Stmt := top 28
abbrev s11 : Stmt := top 29
abbrev s12 : Stmt := top 30
abbrev s13 : Stmt := top 31
abbrev s14 : Stmt := top 32
abbrev s15 : Stmt := top 33
abbrev s16 : Stmt := top 34
abbrev s17 : Stmt := top 37
abbrev s18 : Stmt := top 38
abbrev s19 : Stmt := top 39
abbrev s20 : Stmt := top 42
abbrev s21 : Stmt := top 43
abbrev s22 : Stmt := top 46
abbrev s23 : Stmt := top 49
abbrev s24 : Stmt := top 50
abbrev s25 : Stmt := top 54
abbrev s26 : Stmt := top 55
abbrev s27 : Stmt := top 56
abbrev s28 : Stmt := top 57
abbrev s29 : Stmt := top 59
abbrev s30 : Stmt := top 60
abbrev s31 : Stmt := top 61
abbrev s32 : Stmt := top 62
abbrev s33 : Stmt := top 63
abbrev s34 : Stmt := top 64
abbrev s35 : Stmt := top 65
abbrev s36 : Stmt := top 66
abbrev s37 : Stmt := top 35
abbrev s38 : Stmt := top 40
abbrev s39 : Stmt := top 44
abbrev s40 : Stmt := top 47
abbrev s41 : Stmt := inClass (top 23) 0
abbrev s42 : Stmt := inClass (top 23) 1
abbrev s43 : Stmt := inClass (top 23) 2
abbrev s44 : Stmt := inClass (top 23) 3
abbrev s45 : Stmt := inClass (top 23) 4
abbrev s46 : Stmt := inClass (top 52) 0
abbrev s47 : Stmt := inClass (top 52) 1
abbrev s48 : Stmt := inClass (top 52) 2
abbrev s49 : Stmt := inClass (top 52) 3
abbrev s50 : Stmt := inClass (top 52) 4
abbrev s51 : Stmt := inClass (top 52) 5
abbrev s52 : Stmt := inClass (top 52) 6
abbrev s53 : Stmt := inClass (top 52) 7
abbrev s54 : Stmt := inClass (top 52) 8
abbrev s55 : Stmt := inClass (top 52) 9
abbrev s56 : Stmt := inClass (top 52) 10
abbrev s57 : Stmt := inClass (top 52) 11
def G : Gs := { fns := Str.ofString "_law_amount" :: Str.ofString "_law_bad" :: Str.ofString "_law_cell" :: Str.ofString "_law_deed" :: Str.ofString "_law_drawn" :: Str.ofString "_law_full" :: Str.ofString "_law_kind_of" :: Str.ofString "_law_more" :: Str.ofString "_law_not_made" :: Str.ofString "_law_refused" :: Str.ofString "_law_thing" :: Str.ofString "_wall" :: Str.ofString "ask_place" :: Str.ofString "ask_stretch" :: Str.ofString "at" :: Str.ofString "back" :: Str.ofString "both" :: Str.ofString "cut_at" :: Str.ofString "cut_rows" :: Str.ofString "evened" :: Str.ofString "height" :: Str.ofString "joined" :: Str.ofString "laid_rows" :: Str.ofString "leaning_left" :: Str.ofString "leaning_right" :: Str.ofString "made_between" :: Str.ofString "make_of" :: Str.ofString "out_rows" :: Str.ofString "parts" :: Str.ofString "put_in" :: Str.ofString "put_rows" :: Str.ofString "size" :: Str.ofString "sums_of" :: Str.ofString "swapped" :: Str.ofString "swapped_in" :: Str.ofString "taken_out" :: Str.ofString "things_of" :: Str.ofString "total" :: Str.ofString "turned_part" :: Str.ofString "without_last" :: [], cls := Str.ofString "Shelf" :: Str.ofString "Wood" :: [], cons := [("MOST", 2000)], blt := Str.ofString "abs" :: Str.ofString "int" :: Str.ofString "isinstance" :: Str.ofString "len" :: Str.ofString "list" :: Str.ofString "max" :: Str.ofString "range" :: Str.ofString "sum" :: [], exs := Str.ofString "NoBalance" :: Str.ofString "NoPlace" :: Str.ofString "TooMany" :: [], flds := Str.ofString "adding" :: Str.ofString "now" :: Str.ofString "numbered" :: Str.ofString "past" :: Str.ofString "wood" :: [], isx := [("NoPlace", [("NoBalance", false), ("NoPlace", true), ("TooMany", false)]), ("TooMany", [("NoBalance", false), ("NoPlace", false), ("TooMany", true)]), ("ValueError", [("NoBalance", true), ("NoPlace", true), ("TooMany", true)])], tryx := [("ShelfError", [("NoBalance", true), ("NoPlace", true), ("TooMany", true)])], ist := [(["Changed", "NoBalance", "NoMore", "NoName", "NoNumber", "NoRow", "NoSum", "NoThing", "NoWay"], [("NoBalance", true), ("NoPlace", false), ("TooMany", false)])] }
theorem k0 : okSs d_wall.N (defScope s0) { G with lm := false } d_wall.b (defBody s0) = true := by decide +kernel
theorem c0 : FnScope d_wall.N (d_wall.N.take d_wall.ps) (defScope s0) := ⟨rfl, rfl, rfl, by decide +kernel, rfl, by decide +kernel, by decide +kernel⟩
theorem k1 : okSs d_size.N (defScope s1) { G with lm := false } d_size.b (defBody s1) = true := by decide +kernel
theorem c1 : FnScope d_size.N (d_size.N.take d_size.ps) (defScope s1) := ⟨rfl, rfl, rfl, by decide +kernel, rfl, by decide +kernel, by decide +kernel⟩
theorem k2 : okSs d_height.N (defScope s2) { G with lm := false } d_height.b (defBody s2) = true := by decide +kernel
theorem c2 : FnScope d_height.N (d_height.N.take d_height.ps) (defScope s2) := ⟨rfl, rfl, rfl, by decide +kernel, rfl, by decide +kernel, by decide +kernel⟩
theorem k3 : okSs d_total.N (defScope s3) { G with lm := false } d_total.b (defBody s3) = true := by decide +kernel
theorem c3 : FnScope d_total.N (d_total.N.take d_total.ps) (defScope s3) := ⟨rfl, rfl, rfl, by decide +kernel, rfl, by decide +kernel, by decide +kernel⟩
theorem k4 : okSs d_back.N (defScope s4) { G with lm := false } d_back.b (defBody s4) = true := by decide +kernel
theorem c4 : FnScope d_back.N (d_back.N.take d_back.ps) (defScope s4) := ⟨rfl, rfl, rfl, by decide +kernel, rfl, by decide +kernel, by decide +kernel⟩
theorem k5 : okSs d_sums_of.N (defScope s5) { G with lm := false } d_sums_of.b (defBody s5) = true := by decide +kernel
theorem c5 : FnScope d_sums_of.N (d_sums_of.N.take d_sums_of.ps) (defScope s5) := ⟨rfl, rfl, rfl, by decide +kernel, rfl, by decide +kernel, by decide +kernel⟩
theorem k6 : okSs d_parts.N (defScope s6) { G with lm := false } d_parts.b (defBody s6) = true := by decide +kernel
theorem c6 : FnScope d_parts.N (d_parts.N.take d_parts.ps) (defScope s6) := ⟨rfl, rfl, rfl, by decide +kernel, rfl, by decide +kernel, by decide +kernel⟩
theorem k7 : okSs d_ask_place.N (defScope s7) { G with lm := false } d_ask_place.b (defBody s7) = true := by decide +kernel
theorem c7 : FnScope d_ask_place.N (d_ask_place.N.take d_ask_place.ps) (defScope s7) := ⟨rfl, rfl, rfl, by decide +kernel, rfl, by decide +kernel, by decide +kernel⟩
theorem k8 : okSs d_made_between.N (defScope s8) { G with lm := false } d_made_between.b (defBody s8) = true := by decide +kernel
theorem c8 : FnScope d_made_between.N (d_made_between.N.take d_made_between.ps) (defScope s8) := ⟨rfl, rfl, rfl, by decide +kernel, rfl, by decide +kernel, by decide +kernel⟩
theorem k9 : okSs d_make_of.N (defScope s9) { G with lm := false } d_make_of.b (defBody s9) = true := by decide +kernel
theorem c9 : FnScope d_make_of.N (d_make_of.N.take d_make_of.ps) (defScope s9) := ⟨rfl, rfl, rfl, by decide +kernel, rfl, by decide +kernel, by decide +kernel⟩
theorem k10 : okSs d_things_of_2.N (defScope s10) { G with lm := false } d_things_of_2.b (defBody s10) = true := by decide +kernel
theorem c10 : FnScope d_things_of_2.N (d_things_of_2.N.take d_things_of_2.ps) (defScope s10) := ⟨rfl, rfl, rfl, by decide +kernel, rfl, by decide +kernel, by decide +kernel⟩
theorem k11 : okSs d_at.N (defScope s11) { G with lm := false } d_at.b (defBody s11) = true := by decide +kernel
theorem c11 : FnScope d_at.N (d_at.N.take d_at.ps) (defScope s11) := ⟨rfl, rfl, rfl, by decide +kernel, rfl, by decide +kernel, by decide +kernel⟩
theorem k12 : okSs d_leaning_left.N (defScope s12) { G with lm := false } d_leaning_left.b (defBody s12) = true := by decide +kernel
theorem c12 : FnScope d_leaning_left.N (d_leaning_left.N.take d_leaning_left.ps) (defScope s12) := ⟨rfl, rfl, rfl, by decide +kernel, rfl, by decide +kernel, by decide +kernel⟩
theorem k13 : okSs d_leaning_right.N (defScope s13) { G with lm := false } d_leaning_right.b (defBody s13) = true := by decide +kernel
theorem c13 : FnScope d_leaning_right.N (d_leaning_right.N.take d_leaning_right.ps) (defScope s13) := ⟨rfl, rfl, rfl, by decide +kernel, rfl, by decide +kernel, by decide +kernel⟩
theorem k14 : okSs d_evened.N (defScope s14) { G with lm := false } d_evened.b (defBody s14) = true := by decide +kernel
theorem c14 : FnScope d_evened.N (d_evened.N.take d_evened.ps) (defScope s14) := ⟨rfl, rfl, rfl, by decide +kernel, rfl, by decide +kernel, by decide +kernel⟩
theorem k15 : okSs d_joined.N (defScope s15) { G with lm := false } d_joined.b (defBody s15) = true := by decide +kernel
theorem c15 : FnScope d_joined.N (d_joined.N.take d_joined.ps) (defScope s15) := ⟨rfl, rfl, rfl, by decide +kernel, rfl, by decide +kernel, by decide +kernel⟩
theorem k16 : okSs d_put_in.N (defScope s16) { G with lm := false } d_put_in.b (defBody s16) = true := by decide +kernel
theorem c16 : FnScope d_put_in.N (d_put_in.N.take d_put_in.ps) (defScope s16) := ⟨rfl, rfl, rfl, by decide +kernel, rfl, by decide +kernel, by decide +kernel⟩
theorem k17 : okSs d_without_last.N (defScope s17) { G with lm := false } d_without_last.b (defBody s17) = true := by decide +kernel
theorem c17 : FnScope d_without_last.N (d_without_last.N.take d_without_last.ps) (defScope s17) := ⟨rfl, rfl, rfl, by decide +kernel, rfl, by decide +kernel, by decide +kernel⟩
theorem k18 : okSs d_both.N (defScope s18) { G with lm := false } d_both.b (defBody s18) = true := by decide +kernel
theorem c18 : FnScope d_both.N (d_both.N.take d_both.ps) (defScope s18) := ⟨rfl, rfl, rfl, by decide +kernel, rfl, by decide +kernel, by decide +kernel⟩
theorem k19 : okSs d_taken_out.N (defScope s19) { G with lm := false } d_taken_out.b (defBody s19) = true := by decide +kernel
theorem c19 : FnScope d_taken_out.N (d_taken_out.N.take d_taken_out.ps) (defScope s19) := ⟨rfl, rfl, rfl, by decide +kernel, rfl, by decide +kernel, by decide +kernel⟩
theorem k20 : okSs d_swapped_in.N (defScope s20) { G with lm := false } d_swapped_in.b (defBody s20) = true := by decide +kernel
theorem c20 : FnScope d_swapped_in.N (d_swapped_in.N.take d_swapped_in.ps) (defScope s20) := ⟨rfl, rfl, rfl, by decide +kernel, rfl, by decide +kernel, by decide +kernel⟩
theorem k21 : okSs d_swapped.N (defScope s21) { G with lm := false } d_swapped.b (defBody s21) = true := by decide +kernel
theorem c21 : FnScope d_swapped.N (d_swapped.N.take d_swapped.ps) (defScope s21) := ⟨rfl, rfl, rfl, by decide +kernel, rfl, by decide +kernel, by decide +kernel⟩
theorem k22 : okSs d_cut_at.N (defScope s22) { G with lm := false } d_cut_at.b (defBody s22) = true := by decide +kernel
theorem c22 : FnScope d_cut_at.N (d_cut_at.N.take d_cut_at.ps) (defScope s22) := ⟨rfl, rfl, rfl, by decide +kernel, rfl, by decide +kernel, by decide +kernel⟩
theorem k23 : okSs d_ask_stretch.N (defScope s23) { G with lm := false } d_ask_stretch.b (defBody s23) = true := by decide +kernel
theorem c23 : FnScope d_ask_stretch.N (d_ask_stretch.N.take d_ask_stretch.ps) (defScope s23) := ⟨rfl, rfl, rfl, by decide +kernel, rfl, by decide +kernel, by decide +kernel⟩
theorem k24 : okSs d_turned_part.N (defScope s24) { G with lm := false } d_turned_part.b (defBody s24) = true := by decide +kernel
theorem c24 : FnScope d_turned_part.N (d_turned_part.N.take d_turned_part.ps) (defScope s24) := ⟨rfl, rfl, rfl, by decide +kernel, rfl, by decide +kernel, by decide +kernel⟩
theorem k25 : okSs d_cell_3.N (defScope s25) { G with lm := false } d_cell_3.b (defBody s25) = true := by decide +kernel
theorem c25 : FnScope d_cell_3.N (d_cell_3.N.take d_cell_3.ps) (defScope s25) := ⟨rfl, rfl, rfl, by decide +kernel, rfl, by decide +kernel, by decide +kernel⟩
theorem k26 : okSs d_drawn.N (defScope s26) { G with lm := false } d_drawn.b (defBody s26) = true := by decide +kernel
theorem c26 : FnScope d_drawn.N (d_drawn.N.take d_drawn.ps) (defScope s26) := ⟨rfl, rfl, rfl, by decide +kernel, rfl, by decide +kernel, by decide +kernel⟩
theorem k27 : okSs d_thing_7.N (defScope s27) { G with lm := false } d_thing_7.b (defBody s27) = true := by decide +kernel
theorem c27 : FnScope d_thing_7.N (d_thing_7.N.take d_thing_7.ps) (defScope s27) := ⟨rfl, rfl, rfl, by decide +kernel, rfl, by decide +kernel, by decide +kernel⟩
theorem k28 : okSs d_amount.N (defScope s28) { G with lm := false } d_amount.b (defBody s28) = true := by decide +kernel
theorem c28 : FnScope d_amount.N (d_amount.N.take d_amount.ps) (defScope s28) := ⟨rfl, rfl, rfl, by decide +kernel, rfl, by decide +kernel, by decide +kernel⟩
theorem k29 : okSs d_deed_8.N (defScope s29) { G with lm := false } d_deed_8.b (defBody s29) = true := by decide +kernel
theorem c29 : FnScope d_deed_8.N (d_deed_8.N.take d_deed_8.ps) (defScope s29) := ⟨rfl, rfl, rfl, by decide +kernel, rfl, by decide +kernel, by decide +kernel⟩
theorem k30 : okSs d_bad.N (defScope s30) { G with lm := false } d_bad.b (defBody s30) = true := by decide +kernel
theorem c30 : FnScope d_bad.N (d_bad.N.take d_bad.ps) (defScope s30) := ⟨rfl, rfl, rfl, by decide +kernel, rfl, by decide +kernel, by decide +kernel⟩
theorem k31 : okSs d_kind_of_3.N (defScope s31) { G with lm := false } d_kind_of_3.b (defBody s31) = true := by decide +kernel
theorem c31 : FnScope d_kind_of_3.N (d_kind_of_3.N.take d_kind_of_3.ps) (defScope s31) := ⟨rfl, rfl, rfl, by decide +kernel, rfl, by decide +kernel, by decide +kernel⟩
theorem k32 : okSs d_refused_2.N (defScope s32) { G with lm := false } d_refused_2.b (defBody s32) = true := by decide +kernel
theorem c32 : FnScope d_refused_2.N (d_refused_2.N.take d_refused_2.ps) (defScope s32) := ⟨rfl, rfl, rfl, by decide +kernel, rfl, by decide +kernel, by decide +kernel⟩
theorem k33 : okSs d_more.N (defScope s33) { G with lm := false } d_more.b (defBody s33) = true := by decide +kernel
theorem c33 : FnScope d_more.N (d_more.N.take d_more.ps) (defScope s33) := ⟨rfl, rfl, rfl, by decide +kernel, rfl, by decide +kernel, by decide +kernel⟩
theorem k34 : okSs d_not_made.N (defScope s34) { G with lm := false } d_not_made.b (defBody s34) = true := by decide +kernel
theorem c34 : FnScope d_not_made.N (d_not_made.N.take d_not_made.ps) (defScope s34) := ⟨rfl, rfl, rfl, by decide +kernel, rfl, by decide +kernel, by decide +kernel⟩
theorem k35 : okSs d_full.N (defScope s35) { G with lm := false } d_full.b (defBody s35) = true := by decide +kernel
theorem c35 : FnScope d_full.N (d_full.N.take d_full.ps) (defScope s35) := ⟨rfl, rfl, rfl, by decide +kernel, rfl, by decide +kernel, by decide +kernel⟩
theorem k36 : okSs d_law_25.N (defScope s36) { G with lm := false } d_law_25.b (defBody s36) = true := by decide +kernel
theorem c36 : FnScope d_law_25.N (d_law_25.N.take d_law_25.ps) (defScope s36) := ⟨rfl, rfl, rfl, by decide +kernel, rfl, by decide +kernel, by decide +kernel⟩
theorem k37 : okSs d_put.N (defScope s37) { G with lm := false } d_put.b (defBody s37) = true := by decide +kernel
theorem c37 : FnScope d_put.N (d_put.N.take d_put.ps) (defScope s37) := ⟨rfl, rfl, rfl, by decide +kernel, rfl, by decide +kernel, by decide +kernel⟩
theorem k38 : okSs d_out.N (defScope s38) { G with lm := false } d_out.b (defBody s38) = true := by decide +kernel
theorem c38 : FnScope d_out.N (d_out.N.take d_out.ps) (defScope s38) := ⟨rfl, rfl, rfl, by decide +kernel, rfl, by decide +kernel, by decide +kernel⟩
theorem k39 : okSs d_laid.N (defScope s39) { G with lm := false } d_laid.b (defBody s39) = true := by decide +kernel
theorem c39 : FnScope d_laid.N (d_laid.N.take d_laid.ps) (defScope s39) := ⟨rfl, rfl, rfl, by decide +kernel, rfl, by decide +kernel, by decide +kernel⟩
theorem k40 : okSs d_cut.N (defScope s40) { G with lm := false } d_cut.b (defBody s40) = true := by decide +kernel
theorem c40 : FnScope d_cut.N (d_cut.N.take d_cut.ps) (defScope s40) := ⟨rfl, rfl, rfl, by decide +kernel, rfl, by decide +kernel, by decide +kernel⟩
theorem k41 : okSs d_Wood_init.N (defScope s41) { G with lm := false } d_Wood_init.b (defBody s41) = true := by decide +kernel
theorem c41 : FnScope d_Wood_init.N (d_Wood_init.N.take d_Wood_init.ps) (defScope s41) := ⟨rfl, rfl, rfl, by decide +kernel, rfl, by decide +kernel, by decide +kernel⟩
theorem k42 : okSs d_Wood_made_2.N (defScope s42) { G with lm := false } d_Wood_made_2.b (defBody s42) = true := by decide +kernel
theorem c42 : FnScope d_Wood_made_2.N (d_Wood_made_2.N.take d_Wood_made_2.ps) (defScope s42) := ⟨rfl, rfl, rfl, by decide +kernel, rfl, by decide +kernel, by decide +kernel⟩
theorem k43 : okSs d_Wood_next_number.N (defScope s43) { G with lm := false } d_Wood_next_number.b (defBody s43) = true := by decide +kernel
theorem c43 : FnScope d_Wood_next_number.N (d_Wood_next_number.N.take d_Wood_next_number.ps) (defScope s43) := ⟨rfl, rfl, rfl, by decide +kernel, rfl, by decide +kernel, by decide +kernel⟩
theorem k44 : okSs d_Wood_node.N (defScope s44) { G with lm := false } d_Wood_node.b (defBody s44) = true := by decide +kernel
theorem c44 : FnScope d_Wood_node.N (d_Wood_node.N.take d_Wood_node.ps) (defScope s44) := ⟨rfl, rfl, rfl, by decide +kernel, rfl, by decide +kernel, by decide +kernel⟩
theorem k45 : okSs d_Wood_turned.N (defScope s45) { G with lm := false } d_Wood_turned.b (defBody s45) = true := by decide +kernel
theorem c45 : FnScope d_Wood_turned.N (d_Wood_turned.N.take d_Wood_turned.ps) (defScope s45) := ⟨rfl, rfl, rfl, by decide +kernel, rfl, by decide +kernel, by decide +kernel⟩
theorem k46 : okSs d_Shelf_init.N (defScope s46) { G with lm := false } d_Shelf_init.b (defBody s46) = true := by decide +kernel
theorem c46 : FnScope d_Shelf_init.N (d_Shelf_init.N.take d_Shelf_init.ps) (defScope s46) := ⟨rfl, rfl, rfl, by decide +kernel, rfl, by decide +kernel, by decide +kernel⟩
theorem k47 : okSs d_Shelf_make.N (defScope s47) { G with lm := false } d_Shelf_make.b (defBody s47) = true := by decide +kernel
theorem c47 : FnScope d_Shelf_make.N (d_Shelf_make.N.take d_Shelf_make.ps) (defScope s47) := ⟨rfl, rfl, rfl, by decide +kernel, rfl, by decide +kernel, by decide +kernel⟩
theorem k48 : okSs d_Shelf_things.N (defScope s48) { G with lm := false } d_Shelf_things.b (defBody s48) = true := by decide +kernel
theorem c48 : FnScope d_Shelf_things.N (d_Shelf_things.N.take d_Shelf_things.ps) (defScope s48) := ⟨rfl, rfl, rfl, by decide +kernel, rfl, by decide +kernel, by decide +kernel⟩
theorem k49 : okSs d_Shelf_deeds.N (defScope s49) { G with lm := false } d_Shelf_deeds.b (defBody s49) = true := by decide +kernel
theorem c49 : FnScope d_Shelf_deeds.N (d_Shelf_deeds.N.take d_Shelf_deeds.ps) (defScope s49) := ⟨rfl, rfl, rfl, by decide +kernel, rfl, by decide +kernel, by decide +kernel⟩
theorem k50 : okSs d_Shelf_hold.N (defScope s50) { G with lm := false } d_Shelf_hold.b (defBody s50) = true := by decide +kernel
theorem c50 : FnScope d_Shelf_hold.N (d_Shelf_hold.N.take d_Shelf_hold.ps) (defScope s50) := ⟨rfl, rfl, rfl, by decide +kernel, rfl, by decide +kernel, by decide +kernel⟩
theorem k51 : okSs d_Shelf_put.N (defScope s51) { G with lm := false } d_Shelf_put.b (defBody s51) = true := by decide +kernel
theorem c51 : FnScope d_Shelf_put.N (d_Shelf_put.N.take d_Shelf_put.ps) (defScope s51) := ⟨rfl, rfl, rfl, by decide +kernel, rfl, by decide +kernel, by decide +kernel⟩
theorem k52 : okSs d_Shelf_out.N (defScope s52) { G with lm := false } d_Shelf_out.b (defBody s52) = true := by decide +kernel
theorem c52 : FnScope d_Shelf_out.N (d_Shelf_out.N.take d_Shelf_out.ps) (defScope s52) := ⟨rfl, rfl, rfl, by decide +kernel, rfl, by decide +kernel, by decide +kernel⟩
theorem k53 : okSs d_Shelf_swap.N (defScope s53) { G with lm := false } d_Shelf_swap.b (defBody s53) = true := by decide +kernel
theorem c53 : FnScope d_Shelf_swap.N (d_Shelf_swap.N.take d_Shelf_swap.ps) (defScope s53) := ⟨rfl, rfl, rfl, by decide +kernel, rfl, by decide +kernel, by decide +kernel⟩
theorem k54 : okSs d_Shelf_turned.N (defScope s54) { G with lm := false } d_Shelf_turned.b (defBody s54) = true := by decide +kernel
theorem c54 : FnScope d_Shelf_turned.N (d_Shelf_turned.N.take d_Shelf_turned.ps) (defScope s54) := ⟨rfl, rfl, rfl, by decide +kernel, rfl, by decide +kernel, by decide +kernel⟩
theorem k55 : okSs d_Shelf_laid.N (defScope s55) { G with lm := false } d_Shelf_laid.b (defBody s55) = true := by decide +kernel
theorem c55 : FnScope d_Shelf_laid.N (d_Shelf_laid.N.take d_Shelf_laid.ps) (defScope s55) := ⟨rfl, rfl, rfl, by decide +kernel, rfl, by decide +kernel, by decide +kernel⟩
theorem k56 : okSs d_Shelf_cut_2.N (defScope s56) { G with lm := false } d_Shelf_cut_2.b (defBody s56) = true := by decide +kernel
theorem c56 : FnScope d_Shelf_cut_2.N (d_Shelf_cut_2.N.take d_Shelf_cut_2.ps) (defScope s56) := ⟨rfl, rfl, rfl, by decide +kernel, rfl, by decide +kernel, by decide +kernel⟩
theorem k57 : okSs d_Shelf_back_2.N (defScope s57) { G with lm := false } d_Shelf_back_2.b (defBody s57) = true := by decide +kernel
theorem c57 : FnScope d_Shelf_back_2.N (d_Shelf_back_2.N.take d_Shelf_back_2.ps) (defScope s57) := ⟨rfl, rfl, rfl, by decide +kernel, rfl, by decide +kernel, by decide +kernel⟩
def keys : List FK := (FK.f "_wall") :: (FK.f "size") :: (FK.f "height") :: (FK.f "total") :: (FK.f "back") :: (FK.f "sums_of") :: (FK.f "parts") :: (FK.f "ask_place") :: (FK.f "made_between") :: (FK.f "make_of") :: (FK.f "things_of") :: (FK.f "at") :: (FK.f "leaning_left") :: (FK.f "leaning_right") :: (FK.f "evened") :: (FK.f "joined") :: (FK.f "put_in") :: (FK.f "without_last") :: (FK.f "both") :: (FK.f "taken_out") :: (FK.f "swapped_in") :: (FK.f "swapped") :: (FK.f "cut_at") :: (FK.f "ask_stretch") :: (FK.f "turned_part") :: (FK.f "_law_cell") :: (FK.f "_law_drawn") :: (FK.f "_law_thing") :: (FK.f "_law_amount") :: (FK.f "_law_deed") :: (FK.f "_law_bad") :: (FK.f "_law_kind_of") :: (FK.f "_law_refused") :: (FK.f "_law_more") :: (FK.f "_law_not_made") :: (FK.f "_law_full") :: (FK.f "law") :: (FK.f "put_rows") :: (FK.f "out_rows") :: (FK.f "laid_rows") :: (FK.f "cut_rows") :: (FK.m "Wood" "__init__") :: (FK.m "Wood" "made") :: (FK.m "Wood" "next_number") :: (FK.m "Wood" "node") :: (FK.m "Wood" "turned") :: (FK.m "Shelf" "__init__") :: (FK.m "Shelf" "make") :: (FK.m "Shelf" "things") :: (FK.m "Shelf" "deeds") :: (FK.m "Shelf" "hold") :: (FK.m "Shelf" "put") :: (FK.m "Shelf" "out") :: (FK.m "Shelf" "swap") :: (FK.m "Shelf" "turned") :: (FK.m "Shelf" "laid") :: (FK.m "Shelf" "cut") :: (FK.m "Shelf" "back") :: []
def defs : List Def := d_wall :: d_size :: d_height :: d_total :: d_back :: d_sums_of :: d_parts :: d_ask_place :: d_made_between :: d_make_of :: d_things_of_2 :: d_at :: d_leaning_left :: d_leaning_right :: d_evened :: d_joined :: d_put_in :: d_without_last :: d_both :: d_taken_out :: d_swapped_in :: d_swapped :: d_cut_at :: d_ask_stretch :: d_turned_part :: d_cell_3 :: d_drawn :: d_thing_7 :: d_amount :: d_deed_8 :: d_bad :: d_kind_of_3 :: d_refused_2 :: d_more :: d_not_made :: d_full :: d_law_25 :: d_put :: d_out :: d_laid :: d_cut :: d_Wood_init :: d_Wood_made_2 :: d_Wood_next_number :: d_Wood_node :: d_Wood_turned :: d_Shelf_init :: d_Shelf_make :: d_Shelf_things :: d_Shelf_deeds :: d_Shelf_hold :: d_Shelf_put :: d_Shelf_out :: d_Shelf_swap :: d_Shelf_turned :: d_Shelf_laid :: d_Shelf_cut_2 :: d_Shelf_back_2 :: []
abbrev T : FK → Option Def := getK keys defs
theorem t0 : keyAt keys (FK.f "_wall") = some 0 := by decide +kernel
theorem at_wall : T (FK.f "_wall") = some d_wall := (getK_at t0).trans rfl
theorem t1 : keyAt keys (FK.f "size") = some 1 := by decide +kernel
theorem at_size : T (FK.f "size") = some d_size := (getK_at t1).trans rfl
theorem t2 : keyAt keys (FK.f "height") = some 2 := by decide +kernel
theorem at_height : T (FK.f "height") = some d_height := (getK_at t2).trans rfl
theorem t3 : keyAt keys (FK.f "total") = some 3 := by decide +kernel
theorem at_total : T (FK.f "total") = some d_total := (getK_at t3).trans rfl
theorem t4 : keyAt keys (FK.f "back") = some 4 := by decide +kernel
theorem at_back : T (FK.f "back") = some d_back := (getK_at t4).trans rfl
theorem t5 : keyAt keys (FK.f "sums_of") = some 5 := by decide +kernel
theorem at_sums_of : T (FK.f "sums_of") = some d_sums_of := (getK_at t5).trans rfl
theorem t6 : keyAt keys (FK.f "parts") = some 6 := by decide +kernel
theorem at_parts : T (FK.f "parts") = some d_parts := (getK_at t6).trans rfl
theorem t7 : keyAt keys (FK.f "ask_place") = some 7 := by decide +kernel
theorem at_ask_place : T (FK.f "ask_place") = some d_ask_place := (getK_at t7).trans rfl
theorem t8 : keyAt keys (FK.f "made_between") = some 8 := by decide +kernel
theorem at_made_between : T (FK.f "made_between") = some d_made_between := (getK_at t8).trans rfl
theorem t9 : keyAt keys (FK.f "make_of") = some 9 := by decide +kernel
theorem at_make_of : T (FK.f "make_of") = some d_make_of := (getK_at t9).trans rfl
theorem t10 : keyAt keys (FK.f "things_of") = some 10 := by decide +kernel
theorem at_things_of : T (FK.f "things_of") = some d_things_of_2 := (getK_at t10).trans rfl
theorem t11 : keyAt keys (FK.f "at") = some 11 := by decide +kernel
theorem at_at : T (FK.f "at") = some d_at := (getK_at t11).trans rfl
theorem t12 : keyAt keys (FK.f "leaning_left") = some 12 := by decide +kernel
theorem at_leaning_left : T (FK.f "leaning_left") = some d_leaning_left := (getK_at t12).trans rfl
theorem t13 : keyAt keys (FK.f "leaning_right") = some 13 := by decide +kernel
theorem at_leaning_right : T (FK.f "leaning_right") = some d_leaning_right := (getK_at t13).trans rfl
theorem t14 : keyAt keys (FK.f "evened") = some 14 := by decide +kernel
theorem at_evened : T (FK.f "evened") = some d_evened := (getK_at t14).trans rfl
theorem t15 : keyAt keys (FK.f "joined") = some 15 := by decide +kernel
theorem at_joined : T (FK.f "joined") = some d_joined := (getK_at t15).trans rfl
theorem t16 : keyAt keys (FK.f "put_in") = some 16 := by decide +kernel
theorem at_put_in : T (FK.f "put_in") = some d_put_in := (getK_at t16).trans rfl
theorem t17 : keyAt keys (FK.f "without_last") = some 17 := by decide +kernel
theorem at_without_last : T (FK.f "without_last") = some d_without_last := (getK_at t17).trans rfl
theorem t18 : keyAt keys (FK.f "both") = some 18 := by decide +kernel
theorem at_both : T (FK.f "both") = some d_both := (getK_at t18).trans rfl
theorem t19 : keyAt keys (FK.f "taken_out") = some 19 := by decide +kernel
theorem at_taken_out : T (FK.f "taken_out") = some d_taken_out := (getK_at t19).trans rfl
theorem t20 : keyAt keys (FK.f "swapped_in") = some 20 := by decide +kernel
theorem at_swapped_in : T (FK.f "swapped_in") = some d_swapped_in := (getK_at t20).trans rfl
theorem t21 : keyAt keys (FK.f "swapped") = some 21 := by decide +kernel
theorem at_swapped : T (FK.f "swapped") = some d_swapped := (getK_at t21).trans rfl
theorem t22 : keyAt keys (FK.f "cut_at") = some 22 := by decide +kernel
theorem at_cut_at : T (FK.f "cut_at") = some d_cut_at := (getK_at t22).trans rfl
theorem t23 : keyAt keys (FK.f "ask_stretch") = some 23 := by decide +kernel
theorem at_ask_stretch : T (FK.f "ask_stretch") = some d_ask_stretch := (getK_at t23).trans rfl
theorem t24 : keyAt keys (FK.f "turned_part") = some 24 := by decide +kernel
theorem at_turned_part : T (FK.f "turned_part") = some d_turned_part := (getK_at t24).trans rfl
theorem t25 : keyAt keys (FK.f "_law_cell") = some 25 := by decide +kernel
theorem at_cell : T (FK.f "_law_cell") = some d_cell_3 := (getK_at t25).trans rfl
theorem t26 : keyAt keys (FK.f "_law_drawn") = some 26 := by decide +kernel
theorem at_drawn : T (FK.f "_law_drawn") = some d_drawn := (getK_at t26).trans rfl
theorem t27 : keyAt keys (FK.f "_law_thing") = some 27 := by decide +kernel
theorem at_thing : T (FK.f "_law_thing") = some d_thing_7 := (getK_at t27).trans rfl
theorem t28 : keyAt keys (FK.f "_law_amount") = some 28 := by decide +kernel
theorem at_amount : T (FK.f "_law_amount") = some d_amount := (getK_at t28).trans rfl
theorem t29 : keyAt keys (FK.f "_law_deed") = some 29 := by decide +kernel
theorem at_deed : T (FK.f "_law_deed") = some d_deed_8 := (getK_at t29).trans rfl
theorem t30 : keyAt keys (FK.f "_law_bad") = some 30 := by decide +kernel
theorem at_bad : T (FK.f "_law_bad") = some d_bad := (getK_at t30).trans rfl
theorem t31 : keyAt keys (FK.f "_law_kind_of") = some 31 := by decide +kernel
theorem at_kind_of : T (FK.f "_law_kind_of") = some d_kind_of_3 := (getK_at t31).trans rfl
theorem t32 : keyAt keys (FK.f "_law_refused") = some 32 := by decide +kernel
theorem at_refused : T (FK.f "_law_refused") = some d_refused_2 := (getK_at t32).trans rfl
theorem t33 : keyAt keys (FK.f "_law_more") = some 33 := by decide +kernel
theorem at_more : T (FK.f "_law_more") = some d_more := (getK_at t33).trans rfl
theorem t34 : keyAt keys (FK.f "_law_not_made") = some 34 := by decide +kernel
theorem at_not_made : T (FK.f "_law_not_made") = some d_not_made := (getK_at t34).trans rfl
theorem t35 : keyAt keys (FK.f "_law_full") = some 35 := by decide +kernel
theorem at_full : T (FK.f "_law_full") = some d_full := (getK_at t35).trans rfl
theorem t36 : keyAt keys (FK.f "law") = some 36 := by decide +kernel
theorem at_law : T (FK.f "law") = some d_law_25 := (getK_at t36).trans rfl
theorem t37 : keyAt keys (FK.f "put_rows") = some 37 := by decide +kernel
theorem at_put_rows : T (FK.f "put_rows") = some d_put := (getK_at t37).trans rfl
theorem t38 : keyAt keys (FK.f "out_rows") = some 38 := by decide +kernel
theorem at_out_rows : T (FK.f "out_rows") = some d_out := (getK_at t38).trans rfl
theorem t39 : keyAt keys (FK.f "laid_rows") = some 39 := by decide +kernel
theorem at_laid_rows : T (FK.f "laid_rows") = some d_laid := (getK_at t39).trans rfl
theorem t40 : keyAt keys (FK.f "cut_rows") = some 40 := by decide +kernel
theorem at_cut_rows : T (FK.f "cut_rows") = some d_cut := (getK_at t40).trans rfl
theorem t41 : keyAt keys (FK.m "Wood" "__init__") = some 41 := by decide +kernel
theorem at_Wood_init : T (FK.m "Wood" "__init__") = some d_Wood_init := (getK_at t41).trans rfl
theorem t42 : keyAt keys (FK.m "Wood" "made") = some 42 := by decide +kernel
theorem at_Wood_made : T (FK.m "Wood" "made") = some d_Wood_made_2 := (getK_at t42).trans rfl
theorem t43 : keyAt keys (FK.m "Wood" "next_number") = some 43 := by decide +kernel
theorem at_Wood_next_number : T (FK.m "Wood" "next_number") = some d_Wood_next_number := (getK_at t43).trans rfl
theorem t44 : keyAt keys (FK.m "Wood" "node") = some 44 := by decide +kernel
theorem at_Wood_node : T (FK.m "Wood" "node") = some d_Wood_node := (getK_at t44).trans rfl
theorem t45 : keyAt keys (FK.m "Wood" "turned") = some 45 := by decide +kernel
theorem at_Wood_turned : T (FK.m "Wood" "turned") = some d_Wood_turned := (getK_at t45).trans rfl
theorem t46 : keyAt keys (FK.m "Shelf" "__init__") = some 46 := by decide +kernel
theorem at_Shelf_init : T (FK.m "Shelf" "__init__") = some d_Shelf_init := (getK_at t46).trans rfl
theorem t47 : keyAt keys (FK.m "Shelf" "make") = some 47 := by decide +kernel
theorem at_Shelf_make : T (FK.m "Shelf" "make") = some d_Shelf_make := (getK_at t47).trans rfl
theorem t48 : keyAt keys (FK.m "Shelf" "things") = some 48 := by decide +kernel
theorem at_Shelf_things : T (FK.m "Shelf" "things") = some d_Shelf_things := (getK_at t48).trans rfl
theorem t49 : keyAt keys (FK.m "Shelf" "deeds") = some 49 := by decide +kernel
theorem at_Shelf_deeds : T (FK.m "Shelf" "deeds") = some d_Shelf_deeds := (getK_at t49).trans rfl
theorem t50 : keyAt keys (FK.m "Shelf" "hold") = some 50 := by decide +kernel
theorem at_Shelf_hold : T (FK.m "Shelf" "hold") = some d_Shelf_hold := (getK_at t50).trans rfl
theorem t51 : keyAt keys (FK.m "Shelf" "put") = some 51 := by decide +kernel
theorem at_Shelf_put : T (FK.m "Shelf" "put") = some d_Shelf_put := (getK_at t51).trans rfl
theorem t52 : keyAt keys (FK.m "Shelf" "out") = some 52 := by decide +kernel
theorem at_Shelf_out : T (FK.m "Shelf" "out") = some d_Shelf_out := (getK_at t52).trans rfl
theorem t53 : keyAt keys (FK.m "Shelf" "swap") = some 53 := by decide +kernel
theorem at_Shelf_swap : T (FK.m "Shelf" "swap") = some d_Shelf_swap := (getK_at t53).trans rfl
theorem t54 : keyAt keys (FK.m "Shelf" "turned") = some 54 := by decide +kernel
theorem at_Shelf_turned : T (FK.m "Shelf" "turned") = some d_Shelf_turned := (getK_at t54).trans rfl
theorem t55 : keyAt keys (FK.m "Shelf" "laid") = some 55 := by decide +kernel
theorem at_Shelf_laid : T (FK.m "Shelf" "laid") = some d_Shelf_laid := (getK_at t55).trans rfl
theorem t56 : keyAt keys (FK.m "Shelf" "cut") = some 56 := by decide +kernel
theorem at_Shelf_cut : T (FK.m "Shelf" "cut") = some d_Shelf_cut_2 := (getK_at t56).trans rfl
theorem t57 : keyAt keys (FK.m "Shelf" "back") = some 57 := by decide +kernel
theorem at_Shelf_back : T (FK.m "Shelf" "back") = some d_Shelf_back_2 := (getK_at t57).trans rfl
theorem all_mk {n : Nat} (L : Law T n) {l : PySem.W.OpenLaw} {w : World} {K : PySem.W.Frag} {h : Heap} {mg : Str → Option Value} {fa : Addr} (X : K.In h) (M : h.Ns mainGlobals mg) (hfa : mg "law" = some (.ref fa))
    {C0 : Addr}
    {C1 : Addr}
    {E0 : Addr}
    {E1 : Addr}
    {E2 : Addr}
    {O0 : Addr}
    {O1 : Addr}
    {O2 : Addr}
    {O3 : Addr}
    {O4 : Addr}
    {O5 : Addr}
    {O6 : Addr}
    {O7 : Addr}
    {O8 : Addr}
    {O9 : Addr}
    {O10 : Addr}
    {O11 : Addr}
    {v0 : Addr}
    {f0 : Addr} {od0 an0 : Option Addr} {sl0 : Array (Option Value)} {oc0 kV0 dc0 pm0 ct0 : Value} {cd0 : Value}
    {f1 : Addr} {od1 an1 : Option Addr} {sl1 : Array (Option Value)} {oc1 kV1 dc1 pm1 ct1 : Value} {cd1 : Value}
    {f2 : Addr} {od2 an2 : Option Addr} {sl2 : Array (Option Value)} {oc2 kV2 dc2 pm2 ct2 : Value} {cd2 : Value}
    {f3 : Addr} {od3 an3 : Option Addr} {sl3 : Array (Option Value)} {oc3 kV3 dc3 pm3 ct3 : Value} {cd3 : Value}
    {f4 : Addr} {od4 an4 : Option Addr} {sl4 : Array (Option Value)} {oc4 kV4 dc4 pm4 ct4 : Value} {cd4 : Value}
    {f5 : Addr} {od5 an5 : Option Addr} {sl5 : Array (Option Value)} {oc5 kV5 dc5 pm5 ct5 : Value} {cd5 : Value}
    {f6 : Addr} {od6 an6 : Option Addr} {sl6 : Array (Option Value)} {oc6 kV6 dc6 pm6 ct6 : Value} {cd6 : Value}
    {f7 : Addr} {od7 an7 : Option Addr} {sl7 : Array (Option Value)} {oc7 kV7 dc7 pm7 ct7 : Value} {cd7 : Value}
    {f8 : Addr} {od8 an8 : Option Addr} {sl8 : Array (Option Value)} {oc8 kV8 dc8 pm8 ct8 : Value} {cd8 : Value}
    {f9 : Addr} {od9 an9 : Option Addr} {sl9 : Array (Option Value)} {oc9 kV9 dc9 pm9 ct9 : Value} {cd9 : Value}
    {f10 : Addr} {od10 an10 : Option Addr} {sl10 : Array (Option Value)} {oc10 kV10 dc10 pm10 ct10 : Value} {cd10 : Value}
    {f11 : Addr} {od11 an11 : Option Addr} {sl11 : Array (Option Value)} {oc11 kV11 dc11 pm11 ct11 : Value} {cd11 : Value}
    {f12 : Addr} {od12 an12 : Option Addr} {sl12 : Array (Option Value)} {oc12 kV12 dc12 pm12 ct12 : Value} {cd12 : Value}
    {f13 : Addr} {od13 an13 : Option Addr} {sl13 : Array (Option Value)} {oc13 kV13 dc13 pm13 ct13 : Value} {cd13 : Value}
    {f14 : Addr} {od14 an14 : Option Addr} {sl14 : Array (Option Value)} {oc14 kV14 dc14 pm14 ct14 : Value} {cd14 : Value}
    {f15 : Addr} {od15 an15 : Option Addr} {sl15 : Array (Option Value)} {oc15 kV15 dc15 pm15 ct15 : Value} {cd15 : Value}
    {f16 : Addr} {od16 an16 : Option Addr} {sl16 : Array (Option Value)} {oc16 kV16 dc16 pm16 ct16 : Value} {cd16 : Value}
    {f17 : Addr} {od17 an17 : Option Addr} {sl17 : Array (Option Value)} {oc17 kV17 dc17 pm17 ct17 : Value} {cd17 : Value}
    {f18 : Addr} {od18 an18 : Option Addr} {sl18 : Array (Option Value)} {oc18 kV18 dc18 pm18 ct18 : Value} {cd18 : Value}
    {f19 : Addr} {od19 an19 : Option Addr} {sl19 : Array (Option Value)} {oc19 kV19 dc19 pm19 ct19 : Value} {cd19 : Value}
    {f20 : Addr} {od20 an20 : Option Addr} {sl20 : Array (Option Value)} {oc20 kV20 dc20 pm20 ct20 : Value} {cd20 : Value}
    {f21 : Addr} {od21 an21 : Option Addr} {sl21 : Array (Option Value)} {oc21 kV21 dc21 pm21 ct21 : Value} {cd21 : Value}
    {f22 : Addr} {od22 an22 : Option Addr} {sl22 : Array (Option Value)} {oc22 kV22 dc22 pm22 ct22 : Value} {cd22 : Value}
    {f23 : Addr} {od23 an23 : Option Addr} {sl23 : Array (Option Value)} {oc23 kV23 dc23 pm23 ct23 : Value} {cd23 : Value}
    {f24 : Addr} {od24 an24 : Option Addr} {sl24 : Array (Option Value)} {oc24 kV24 dc24 pm24 ct24 : Value} {cd24 : Value}
    {f25 : Addr} {od25 an25 : Option Addr} {sl25 : Array (Option Value)} {oc25 kV25 dc25 pm25 ct25 : Value} {cd25 : Value}
    {f26 : Addr} {od26 an26 : Option Addr} {sl26 : Array (Option Value)} {oc26 kV26 dc26 pm26 ct26 : Value} {cd26 : Value}
    {f27 : Addr} {od27 an27 : Option Addr} {sl27 : Array (Option Value)} {oc27 kV27 dc27 pm27 ct27 : Value} {cd27 : Value}
    {f28 : Addr} {od28 an28 : Option Addr} {sl28 : Array (Option Value)} {oc28 kV28 dc28 pm28 ct28 : Value} {cd28 : Value}
    {f29 : Addr} {od29 an29 : Option Addr} {sl29 : Array (Option Value)} {oc29 kV29 dc29 pm29 ct29 : Value} {cd29 : Value}
    {f30 : Addr} {od30 an30 : Option Addr} {sl30 : Array (Option Value)} {oc30 kV30 dc30 pm30 ct30 : Value} {cd30 : Value}
    {f31 : Addr} {od31 an31 : Option Addr} {sl31 : Array (Option Value)} {oc31 kV31 dc31 pm31 ct31 : Value} {cd31 : Value}
    {f32 : Addr} {od32 an32 : Option Addr} {sl32 : Array (Option Value)} {oc32 kV32 dc32 pm32 ct32 : Value} {cd32 : Value}
    {f33 : Addr} {od33 an33 : Option Addr} {sl33 : Array (Option Value)} {oc33 kV33 dc33 pm33 ct33 : Value} {cd33 : Value}
    {f34 : Addr} {od34 an34 : Option Addr} {sl34 : Array (Option Value)} {oc34 kV34 dc34 pm34 ct34 : Value} {cd34 : Value}
    {f35 : Addr} {od35 an35 : Option Addr} {sl35 : Array (Option Value)} {oc35 kV35 dc35 pm35 ct35 : Value} {cd35 : Value}
    {f36 : Addr} {od36 an36 : Option Addr} {sl36 : Array (Option Value)} {oc36 kV36 dc36 pm36 ct36 : Value} {cd36 : Value}
    {f37 : Addr} {od37 an37 : Option Addr} {sl37 : Array (Option Value)} {oc37 kV37 dc37 pm37 ct37 : Value} {cd37 : Value}
    {f38 : Addr} {od38 an38 : Option Addr} {sl38 : Array (Option Value)} {oc38 kV38 dc38 pm38 ct38 : Value} {cd38 : Value}
    {f39 : Addr} {od39 an39 : Option Addr} {sl39 : Array (Option Value)} {oc39 kV39 dc39 pm39 ct39 : Value} {cd39 : Value}
    {f40 : Addr} {od40 an40 : Option Addr} {sl40 : Array (Option Value)} {oc40 kV40 dc40 pm40 ct40 : Value} {cd40 : Value}
    {f41 : Addr} {od41 an41 : Option Addr} {sl41 : Array (Option Value)} {oc41 kV41 dc41 pm41 ct41 : Value} {cd41 : Value}
    {T41 : Addr} {tc41 : Value} {td41 : Option Addr} {tn41 : Nat} {ts41 : Array (Option Value)}
    {f42 : Addr} {od42 an42 : Option Addr} {sl42 : Array (Option Value)} {oc42 kV42 dc42 pm42 ct42 : Value} {cd42 : Value}
    {f43 : Addr} {od43 an43 : Option Addr} {sl43 : Array (Option Value)} {oc43 kV43 dc43 pm43 ct43 : Value} {cd43 : Value}
    {f44 : Addr} {od44 an44 : Option Addr} {sl44 : Array (Option Value)} {oc44 kV44 dc44 pm44 ct44 : Value} {cd44 : Value}
    {f45 : Addr} {od45 an45 : Option Addr} {sl45 : Array (Option Value)} {oc45 kV45 dc45 pm45 ct45 : Value} {cd45 : Value}
    {f46 : Addr} {od46 an46 : Option Addr} {sl46 : Array (Option Value)} {oc46 kV46 dc46 pm46 ct46 : Value} {cd46 : Value}
    {T46 : Addr} {tc46 : Value} {td46 : Option Addr} {tn46 : Nat} {ts46 : Array (Option Value)}
    {f47 : Addr} {od47 an47 : Option Addr} {sl47 : Array (Option Value)} {oc47 kV47 dc47 pm47 ct47 : Value} {cd47 : Value}
    {f48 : Addr} {od48 an48 : Option Addr} {sl48 : Array (Option Value)} {oc48 kV48 dc48 pm48 ct48 : Value} {cd48 : Value}
    {f49 : Addr} {od49 an49 : Option Addr} {sl49 : Array (Option Value)} {oc49 kV49 dc49 pm49 ct49 : Value} {cd49 : Value}
    {f50 : Addr} {od50 an50 : Option Addr} {sl50 : Array (Option Value)} {oc50 kV50 dc50 pm50 ct50 : Value} {cd50 : Value}
    {f51 : Addr} {od51 an51 : Option Addr} {sl51 : Array (Option Value)} {oc51 kV51 dc51 pm51 ct51 : Value} {cd51 : Value}
    {f52 : Addr} {od52 an52 : Option Addr} {sl52 : Array (Option Value)} {oc52 kV52 dc52 pm52 ct52 : Value} {cd52 : Value}
    {f53 : Addr} {od53 an53 : Option Addr} {sl53 : Array (Option Value)} {oc53 kV53 dc53 pm53 ct53 : Value} {cd53 : Value}
    {f54 : Addr} {od54 an54 : Option Addr} {sl54 : Array (Option Value)} {oc54 kV54 dc54 pm54 ct54 : Value} {cd54 : Value}
    {f55 : Addr} {od55 an55 : Option Addr} {sl55 : Array (Option Value)} {oc55 kV55 dc55 pm55 ct55 : Value} {cd55 : Value}
    {f56 : Addr} {od56 an56 : Option Addr} {sl56 : Array (Option Value)} {oc56 kV56 dc56 pm56 ct56 : Value} {cd56 : Value}
    {f57 : Addr} {od57 an57 : Option Addr} {sl57 : Array (Option Value)} {oc57 kV57 dc57 pm57 ct57 : Value} {cd57 : Value}
    (aC0 : PySem.W.nsIn K mainGlobals "Shelf" = some (some (.ref C0)))
    (pg0 : PySem.W.plainGet K C0 Str.empty = true)
    (hd0 : PySem.W.hasDictIn K C0 = true)
    (po0 : PySem.W.plainOver K C0 = true)
    (sa0 : PySem.W.findIn K (.ref C0) "__setattr__" = some (some (.builtin "object.__setattr__")))
    (mk0 : PySem.W.makesIn K C0 = true)
    (kc0 : PySem.W.keepIn K (.ref C0) = true)
    (nf0_0 : PySem.W.findIn K (.ref C0) "adding" = some none)
    (nf0_1 : PySem.W.findIn K (.ref C0) "now" = some none)
    (nf0_2 : PySem.W.findIn K (.ref C0) "numbered" = some none)
    (nf0_3 : PySem.W.findIn K (.ref C0) "past" = some none)
    (nf0_4 : PySem.W.findIn K (.ref C0) "wood" = some none)
    (aC1 : PySem.W.nsIn K mainGlobals "Wood" = some (some (.ref C1)))
    (pg1 : PySem.W.plainGet K C1 Str.empty = true)
    (hd1 : PySem.W.hasDictIn K C1 = true)
    (po1 : PySem.W.plainOver K C1 = true)
    (sa1 : PySem.W.findIn K (.ref C1) "__setattr__" = some (some (.builtin "object.__setattr__")))
    (mk1 : PySem.W.makesIn K C1 = true)
    (kc1 : PySem.W.keepIn K (.ref C1) = true)
    (nf1_0 : PySem.W.findIn K (.ref C1) "adding" = some none)
    (nf1_1 : PySem.W.findIn K (.ref C1) "now" = some none)
    (nf1_2 : PySem.W.findIn K (.ref C1) "numbered" = some none)
    (nf1_3 : PySem.W.findIn K (.ref C1) "past" = some none)
    (nf1_4 : PySem.W.findIn K (.ref C1) "wood" = some none)
    (aE0 : PySem.W.nsIn K mainGlobals "NoBalance" = some (some (.ref E0)))
    (xE0 : PySem.W.excIn K E0 [.type "ValueError", .type "Exception", .type "BaseException", .type "object"] "ValueError.__new__" = true)
    (kE0 : PySem.W.keepIn K (.ref E0) = true)
    (sE0 : PySem.W.subIn K (.ref E0) (.type "BaseException") = some true)
    (tE0 : PySem.W.typeIn K (.ref E0) = some (.type "type"))
    (aE1 : PySem.W.nsIn K mainGlobals "NoPlace" = some (some (.ref E1)))
    (xE1 : PySem.W.excIn K E1 [.type "ValueError", .type "Exception", .type "BaseException", .type "object"] "ValueError.__new__" = true)
    (kE1 : PySem.W.keepIn K (.ref E1) = true)
    (sE1 : PySem.W.subIn K (.ref E1) (.type "BaseException") = some true)
    (tE1 : PySem.W.typeIn K (.ref E1) = some (.type "type"))
    (aE2 : PySem.W.nsIn K mainGlobals "TooMany" = some (some (.ref E2)))
    (xE2 : PySem.W.excIn K E2 [.type "ValueError", .type "Exception", .type "BaseException", .type "object"] "ValueError.__new__" = true)
    (kE2 : PySem.W.keepIn K (.ref E2) = true)
    (sE2 : PySem.W.subIn K (.ref E2) (.type "BaseException") = some true)
    (tE2 : PySem.W.typeIn K (.ref E2) = some (.type "type"))
    (gn : PySem.W.specialIn K (.builtin "object.__class__") "__get__" = some (some (.builtin "getset_descriptor.__get__")))
    (gt : PySem.W.takesIn K (.builtin "object.__class__") = some true)
    (uA0 : PySem.W.findIn K (.ref E0) "__getattribute__" = some (some (.builtin "BaseException.__getattribute__")))
    (uB0 : PySem.W.findIn K (.ref E0) "__getattr__" = some none)
    (uD0 : PySem.W.hasDictIn K E0 = true)
    (uC0 : PySem.W.findIn K (.ref E0) "__class__" = some (some (.builtin "object.__class__")))
    (uM0 : PySem.W.mroIn K E0 (.type "object") = some true)
    (uS0 : PySem.W.subIn K (.ref E0) (.ref E0) = some true)
    (uA1 : PySem.W.findIn K (.ref E1) "__getattribute__" = some (some (.builtin "BaseException.__getattribute__")))
    (uB1 : PySem.W.findIn K (.ref E1) "__getattr__" = some none)
    (uD1 : PySem.W.hasDictIn K E1 = true)
    (uC1 : PySem.W.findIn K (.ref E1) "__class__" = some (some (.builtin "object.__class__")))
    (uM1 : PySem.W.mroIn K E1 (.type "object") = some true)
    (uS1 : PySem.W.subIn K (.ref E1) (.ref E1) = some true)
    (uA2 : PySem.W.findIn K (.ref E2) "__getattribute__" = some (some (.builtin "BaseException.__getattribute__")))
    (uB2 : PySem.W.findIn K (.ref E2) "__getattr__" = some none)
    (uD2 : PySem.W.hasDictIn K E2 = true)
    (uC2 : PySem.W.findIn K (.ref E2) "__class__" = some (some (.builtin "object.__class__")))
    (uM2 : PySem.W.mroIn K E2 (.type "object") = some true)
    (uS2 : PySem.W.subIn K (.ref E2) (.ref E2) = some true)
    (aO0 : PySem.W.nsIn K mainGlobals "Changed" = some (some (.ref O0)))
    (iO0 : PySem.W.isClsIn K O0 = true)
    (tO0 : PySem.W.typeIn K (.ref O0) = some (.type "type"))
    (sO0 : PySem.W.subIn K (.ref O0) (.type "BaseException") = some true)
    (s0O0 : PySem.W.subIn K (.ref E0) (.ref O0) = some false)
    (s1O0 : PySem.W.subIn K (.ref E1) (.ref O0) = some false)
    (s2O0 : PySem.W.subIn K (.ref E2) (.ref O0) = some false)
    (aO1 : PySem.W.nsIn K mainGlobals "NoBalance" = some (some (.ref O1)))
    (iO1 : PySem.W.isClsIn K O1 = true)
    (tO1 : PySem.W.typeIn K (.ref O1) = some (.type "type"))
    (sO1 : PySem.W.subIn K (.ref O1) (.type "BaseException") = some true)
    (s0O1 : PySem.W.subIn K (.ref E0) (.ref O1) = some true)
    (s1O1 : PySem.W.subIn K (.ref E1) (.ref O1) = some false)
    (s2O1 : PySem.W.subIn K (.ref E2) (.ref O1) = some false)
    (aO2 : PySem.W.nsIn K mainGlobals "NoMore" = some (some (.ref O2)))
    (iO2 : PySem.W.isClsIn K O2 = true)
    (tO2 : PySem.W.typeIn K (.ref O2) = some (.type "type"))
    (sO2 : PySem.W.subIn K (.ref O2) (.type "BaseException") = some true)
    (s0O2 : PySem.W.subIn K (.ref E0) (.ref O2) = some false)
    (s1O2 : PySem.W.subIn K (.ref E1) (.ref O2) = some false)
    (s2O2 : PySem.W.subIn K (.ref E2) (.ref O2) = some false)
    (aO3 : PySem.W.nsIn K mainGlobals "NoName" = some (some (.ref O3)))
    (iO3 : PySem.W.isClsIn K O3 = true)
    (tO3 : PySem.W.typeIn K (.ref O3) = some (.type "type"))
    (sO3 : PySem.W.subIn K (.ref O3) (.type "BaseException") = some true)
    (s0O3 : PySem.W.subIn K (.ref E0) (.ref O3) = some false)
    (s1O3 : PySem.W.subIn K (.ref E1) (.ref O3) = some false)
    (s2O3 : PySem.W.subIn K (.ref E2) (.ref O3) = some false)
    (aO4 : PySem.W.nsIn K mainGlobals "NoNumber" = some (some (.ref O4)))
    (iO4 : PySem.W.isClsIn K O4 = true)
    (tO4 : PySem.W.typeIn K (.ref O4) = some (.type "type"))
    (sO4 : PySem.W.subIn K (.ref O4) (.type "BaseException") = some true)
    (s0O4 : PySem.W.subIn K (.ref E0) (.ref O4) = some false)
    (s1O4 : PySem.W.subIn K (.ref E1) (.ref O4) = some false)
    (s2O4 : PySem.W.subIn K (.ref E2) (.ref O4) = some false)
    (aO5 : PySem.W.nsIn K mainGlobals "NoPlace" = some (some (.ref O5)))
    (iO5 : PySem.W.isClsIn K O5 = true)
    (tO5 : PySem.W.typeIn K (.ref O5) = some (.type "type"))
    (sO5 : PySem.W.subIn K (.ref O5) (.type "BaseException") = some true)
    (s0O5 : PySem.W.subIn K (.ref E0) (.ref O5) = some false)
    (s1O5 : PySem.W.subIn K (.ref E1) (.ref O5) = some true)
    (s2O5 : PySem.W.subIn K (.ref E2) (.ref O5) = some false)
    (aO6 : PySem.W.nsIn K mainGlobals "NoRow" = some (some (.ref O6)))
    (iO6 : PySem.W.isClsIn K O6 = true)
    (tO6 : PySem.W.typeIn K (.ref O6) = some (.type "type"))
    (sO6 : PySem.W.subIn K (.ref O6) (.type "BaseException") = some true)
    (s0O6 : PySem.W.subIn K (.ref E0) (.ref O6) = some false)
    (s1O6 : PySem.W.subIn K (.ref E1) (.ref O6) = some false)
    (s2O6 : PySem.W.subIn K (.ref E2) (.ref O6) = some false)
    (aO7 : PySem.W.nsIn K mainGlobals "NoSum" = some (some (.ref O7)))
    (iO7 : PySem.W.isClsIn K O7 = true)
    (tO7 : PySem.W.typeIn K (.ref O7) = some (.type "type"))
    (sO7 : PySem.W.subIn K (.ref O7) (.type "BaseException") = some true)
    (s0O7 : PySem.W.subIn K (.ref E0) (.ref O7) = some false)
    (s1O7 : PySem.W.subIn K (.ref E1) (.ref O7) = some false)
    (s2O7 : PySem.W.subIn K (.ref E2) (.ref O7) = some false)
    (aO8 : PySem.W.nsIn K mainGlobals "NoThing" = some (some (.ref O8)))
    (iO8 : PySem.W.isClsIn K O8 = true)
    (tO8 : PySem.W.typeIn K (.ref O8) = some (.type "type"))
    (sO8 : PySem.W.subIn K (.ref O8) (.type "BaseException") = some true)
    (s0O8 : PySem.W.subIn K (.ref E0) (.ref O8) = some false)
    (s1O8 : PySem.W.subIn K (.ref E1) (.ref O8) = some false)
    (s2O8 : PySem.W.subIn K (.ref E2) (.ref O8) = some false)
    (aO9 : PySem.W.nsIn K mainGlobals "NoWay" = some (some (.ref O9)))
    (iO9 : PySem.W.isClsIn K O9 = true)
    (tO9 : PySem.W.typeIn K (.ref O9) = some (.type "type"))
    (sO9 : PySem.W.subIn K (.ref O9) (.type "BaseException") = some true)
    (s0O9 : PySem.W.subIn K (.ref E0) (.ref O9) = some false)
    (s1O9 : PySem.W.subIn K (.ref E1) (.ref O9) = some false)
    (s2O9 : PySem.W.subIn K (.ref E2) (.ref O9) = some false)
    (aO10 : PySem.W.nsIn K mainGlobals "ShelfError" = some (some (.ref O10)))
    (iO10 : PySem.W.isClsIn K O10 = true)
    (tO10 : PySem.W.typeIn K (.ref O10) = some (.type "type"))
    (sO10 : PySem.W.subIn K (.ref O10) (.type "BaseException") = some true)
    (s0O10 : PySem.W.subIn K (.ref E0) (.ref O10) = some true)
    (s1O10 : PySem.W.subIn K (.ref E1) (.ref O10) = some true)
    (s2O10 : PySem.W.subIn K (.ref E2) (.ref O10) = some true)
    (aO11 : PySem.W.nsIn K mainGlobals "TooMany" = some (some (.ref O11)))
    (iO11 : PySem.W.isClsIn K O11 = true)
    (tO11 : PySem.W.typeIn K (.ref O11) = some (.type "type"))
    (sO11 : PySem.W.subIn K (.ref O11) (.type "BaseException") = some true)
    (s0O11 : PySem.W.subIn K (.ref E0) (.ref O11) = some false)
    (s1O11 : PySem.W.subIn K (.ref E1) (.ref O11) = some false)
    (s2O11 : PySem.W.subIn K (.ref E2) (.ref O11) = some true)
    (zV : PySem.W.nsIn K mainGlobals "ValueError" = some none)
    (sV0 : PySem.W.subIn K (.ref E0) (.type "ValueError") = some true)
    (sV1 : PySem.W.subIn K (.ref E1) (.type "ValueError") = some true)
    (sV2 : PySem.W.subIn K (.ref E2) (.type "ValueError") = some true)
    (z0 : PySem.W.nsIn K mainGlobals "abs" = some none)
    (z1 : PySem.W.nsIn K mainGlobals "int" = some none)
    (z2 : PySem.W.nsIn K mainGlobals "isinstance" = some none)
    (z3 : PySem.W.nsIn K mainGlobals "len" = some none)
    (z4 : PySem.W.nsIn K mainGlobals "list" = some none)
    (z5 : PySem.W.nsIn K mainGlobals "max" = some none)
    (z6 : PySem.W.nsIn K mainGlobals "range" = some none)
    (z7 : PySem.W.nsIn K mainGlobals "sum" = some none)
    (v0_ : PySem.W.nsIn K mainGlobals "MOST" = some (some (.int 2000 v0)))
    (a0 : PySem.W.nsIn K mainGlobals "_wall" = some (some (.ref f0)))
    (l0 : K.lookup f0 = some ⟨oc0, od0, .func (PySem.W.fnOf "_wall" "_wall" (defArgs s0) (defBody s0) (defScope s0) .none kV0 dc0 pm0 an0 cd0 ct0), sl0⟩)
    (c0_ : PySem.W.codeIn K cd0 "_wall" = true)
    (k0_ : PySem.W.keepIn K (.ref f0) = true)
    (a1 : PySem.W.nsIn K mainGlobals "size" = some (some (.ref f1)))
    (l1 : K.lookup f1 = some ⟨oc1, od1, .func (PySem.W.fnOf "size" "size" (defArgs s1) (defBody s1) (defScope s1) .none kV1 dc1 pm1 an1 cd1 ct1), sl1⟩)
    (c1_ : PySem.W.codeIn K cd1 "size" = true)
    (k1_ : PySem.W.keepIn K (.ref f1) = true)
    (a2 : PySem.W.nsIn K mainGlobals "height" = some (some (.ref f2)))
    (l2 : K.lookup f2 = some ⟨oc2, od2, .func (PySem.W.fnOf "height" "height" (defArgs s2) (defBody s2) (defScope s2) .none kV2 dc2 pm2 an2 cd2 ct2), sl2⟩)
    (c2_ : PySem.W.codeIn K cd2 "height" = true)
    (k2_ : PySem.W.keepIn K (.ref f2) = true)
    (a3 : PySem.W.nsIn K mainGlobals "total" = some (some (.ref f3)))
    (l3 : K.lookup f3 = some ⟨oc3, od3, .func (PySem.W.fnOf "total" "total" (defArgs s3) (defBody s3) (defScope s3) .none kV3 dc3 pm3 an3 cd3 ct3), sl3⟩)
    (c3_ : PySem.W.codeIn K cd3 "total" = true)
    (k3_ : PySem.W.keepIn K (.ref f3) = true)
    (a4 : PySem.W.nsIn K mainGlobals "back" = some (some (.ref f4)))
    (l4 : K.lookup f4 = some ⟨oc4, od4, .func (PySem.W.fnOf "back" "back" (defArgs s4) (defBody s4) (defScope s4) .none kV4 dc4 pm4 an4 cd4 ct4), sl4⟩)
    (c4_ : PySem.W.codeIn K cd4 "back" = true)
    (k4_ : PySem.W.keepIn K (.ref f4) = true)
    (a5 : PySem.W.nsIn K mainGlobals "sums_of" = some (some (.ref f5)))
    (l5 : K.lookup f5 = some ⟨oc5, od5, .func (PySem.W.fnOf "sums_of" "sums_of" (defArgs s5) (defBody s5) (defScope s5) .none kV5 dc5 pm5 an5 cd5 ct5), sl5⟩)
    (c5_ : PySem.W.codeIn K cd5 "sums_of" = true)
    (k5_ : PySem.W.keepIn K (.ref f5) = true)
    (a6 : PySem.W.nsIn K mainGlobals "parts" = some (some (.ref f6)))
    (l6 : K.lookup f6 = some ⟨oc6, od6, .func (PySem.W.fnOf "parts" "parts" (defArgs s6) (defBody s6) (defScope s6) .none kV6 dc6 pm6 an6 cd6 ct6), sl6⟩)
    (c6_ : PySem.W.codeIn K cd6 "parts" = true)
    (k6_ : PySem.W.keepIn K (.ref f6) = true)
    (a7 : PySem.W.nsIn K mainGlobals "ask_place" = some (some (.ref f7)))
    (l7 : K.lookup f7 = some ⟨oc7, od7, .func (PySem.W.fnOf "ask_place" "ask_place" (defArgs s7) (defBody s7) (defScope s7) .none kV7 dc7 pm7 an7 cd7 ct7), sl7⟩)
    (c7_ : PySem.W.codeIn K cd7 "ask_place" = true)
    (k7_ : PySem.W.keepIn K (.ref f7) = true)
    (a8 : PySem.W.nsIn K mainGlobals "made_between" = some (some (.ref f8)))
    (l8 : K.lookup f8 = some ⟨oc8, od8, .func (PySem.W.fnOf "made_between" "made_between" (defArgs s8) (defBody s8) (defScope s8) .none kV8 dc8 pm8 an8 cd8 ct8), sl8⟩)
    (c8_ : PySem.W.codeIn K cd8 "made_between" = true)
    (k8_ : PySem.W.keepIn K (.ref f8) = true)
    (a9 : PySem.W.nsIn K mainGlobals "make_of" = some (some (.ref f9)))
    (l9 : K.lookup f9 = some ⟨oc9, od9, .func (PySem.W.fnOf "make_of" "make_of" (defArgs s9) (defBody s9) (defScope s9) .none kV9 dc9 pm9 an9 cd9 ct9), sl9⟩)
    (c9_ : PySem.W.codeIn K cd9 "make_of" = true)
    (k9_ : PySem.W.keepIn K (.ref f9) = true)
    (a10 : PySem.W.nsIn K mainGlobals "things_of" = some (some (.ref f10)))
    (l10 : K.lookup f10 = some ⟨oc10, od10, .func (PySem.W.fnOf "things_of" "things_of" (defArgs s10) (defBody s10) (defScope s10) .none kV10 dc10 pm10 an10 cd10 ct10), sl10⟩)
    (c10_ : PySem.W.codeIn K cd10 "things_of" = true)
    (k10_ : PySem.W.keepIn K (.ref f10) = true)
    (a11 : PySem.W.nsIn K mainGlobals "at" = some (some (.ref f11)))
    (l11 : K.lookup f11 = some ⟨oc11, od11, .func (PySem.W.fnOf "at" "at" (defArgs s11) (defBody s11) (defScope s11) .none kV11 dc11 pm11 an11 cd11 ct11), sl11⟩)
    (c11_ : PySem.W.codeIn K cd11 "at" = true)
    (k11_ : PySem.W.keepIn K (.ref f11) = true)
    (a12 : PySem.W.nsIn K mainGlobals "leaning_left" = some (some (.ref f12)))
    (l12 : K.lookup f12 = some ⟨oc12, od12, .func (PySem.W.fnOf "leaning_left" "leaning_left" (defArgs s12) (defBody s12) (defScope s12) .none kV12 dc12 pm12 an12 cd12 ct12), sl12⟩)
    (c12_ : PySem.W.codeIn K cd12 "leaning_left" = true)
    (k12_ : PySem.W.keepIn K (.ref f12) = true)
    (a13 : PySem.W.nsIn K mainGlobals "leaning_right" = some (some (.ref f13)))
    (l13 : K.lookup f13 = some ⟨oc13, od13, .func (PySem.W.fnOf "leaning_right" "leaning_right" (defArgs s13) (defBody s13) (defScope s13) .none kV13 dc13 pm13 an13 cd13 ct13), sl13⟩)
    (c13_ : PySem.W.codeIn K cd13 "leaning_right" = true)
    (k13_ : PySem.W.keepIn K (.ref f13) = true)
    (a14 : PySem.W.nsIn K mainGlobals "evened" = some (some (.ref f14)))
    (l14 : K.lookup f14 = some ⟨oc14, od14, .func (PySem.W.fnOf "evened" "evened" (defArgs s14) (defBody s14) (defScope s14) .none kV14 dc14 pm14 an14 cd14 ct14), sl14⟩)
    (c14_ : PySem.W.codeIn K cd14 "evened" = true)
    (k14_ : PySem.W.keepIn K (.ref f14) = true)
    (a15 : PySem.W.nsIn K mainGlobals "joined" = some (some (.ref f15)))
    (l15 : K.lookup f15 = some ⟨oc15, od15, .func (PySem.W.fnOf "joined" "joined" (defArgs s15) (defBody s15) (defScope s15) .none kV15 dc15 pm15 an15 cd15 ct15), sl15⟩)
    (c15_ : PySem.W.codeIn K cd15 "joined" = true)
    (k15_ : PySem.W.keepIn K (.ref f15) = true)
    (a16 : PySem.W.nsIn K mainGlobals "put_in" = some (some (.ref f16)))
    (l16 : K.lookup f16 = some ⟨oc16, od16, .func (PySem.W.fnOf "put_in" "put_in" (defArgs s16) (defBody s16) (defScope s16) .none kV16 dc16 pm16 an16 cd16 ct16), sl16⟩)
    (c16_ : PySem.W.codeIn K cd16 "put_in" = true)
    (k16_ : PySem.W.keepIn K (.ref f16) = true)
    (a17 : PySem.W.nsIn K mainGlobals "without_last" = some (some (.ref f17)))
    (l17 : K.lookup f17 = some ⟨oc17, od17, .func (PySem.W.fnOf "without_last" "without_last" (defArgs s17) (defBody s17) (defScope s17) .none kV17 dc17 pm17 an17 cd17 ct17), sl17⟩)
    (c17_ : PySem.W.codeIn K cd17 "without_last" = true)
    (k17_ : PySem.W.keepIn K (.ref f17) = true)
    (a18 : PySem.W.nsIn K mainGlobals "both" = some (some (.ref f18)))
    (l18 : K.lookup f18 = some ⟨oc18, od18, .func (PySem.W.fnOf "both" "both" (defArgs s18) (defBody s18) (defScope s18) .none kV18 dc18 pm18 an18 cd18 ct18), sl18⟩)
    (c18_ : PySem.W.codeIn K cd18 "both" = true)
    (k18_ : PySem.W.keepIn K (.ref f18) = true)
    (a19 : PySem.W.nsIn K mainGlobals "taken_out" = some (some (.ref f19)))
    (l19 : K.lookup f19 = some ⟨oc19, od19, .func (PySem.W.fnOf "taken_out" "taken_out" (defArgs s19) (defBody s19) (defScope s19) .none kV19 dc19 pm19 an19 cd19 ct19), sl19⟩)
    (c19_ : PySem.W.codeIn K cd19 "taken_out" = true)
    (k19_ : PySem.W.keepIn K (.ref f19) = true)
    (a20 : PySem.W.nsIn K mainGlobals "swapped_in" = some (some (.ref f20)))
    (l20 : K.lookup f20 = some ⟨oc20, od20, .func (PySem.W.fnOf "swapped_in" "swapped_in" (defArgs s20) (defBody s20) (defScope s20) .none kV20 dc20 pm20 an20 cd20 ct20), sl20⟩)
    (c20_ : PySem.W.codeIn K cd20 "swapped_in" = true)
    (k20_ : PySem.W.keepIn K (.ref f20) = true)
    (a21 : PySem.W.nsIn K mainGlobals "swapped" = some (some (.ref f21)))
    (l21 : K.lookup f21 = some ⟨oc21, od21, .func (PySem.W.fnOf "swapped" "swapped" (defArgs s21) (defBody s21) (defScope s21) .none kV21 dc21 pm21 an21 cd21 ct21), sl21⟩)
    (c21_ : PySem.W.codeIn K cd21 "swapped" = true)
    (k21_ : PySem.W.keepIn K (.ref f21) = true)
    (a22 : PySem.W.nsIn K mainGlobals "cut_at" = some (some (.ref f22)))
    (l22 : K.lookup f22 = some ⟨oc22, od22, .func (PySem.W.fnOf "cut_at" "cut_at" (defArgs s22) (defBody s22) (defScope s22) .none kV22 dc22 pm22 an22 cd22 ct22), sl22⟩)
    (c22_ : PySem.W.codeIn K cd22 "cut_at" = true)
    (k22_ : PySem.W.keepIn K (.ref f22) = true)
    (a23 : PySem.W.nsIn K mainGlobals "ask_stretch" = some (some (.ref f23)))
    (l23 : K.lookup f23 = some ⟨oc23, od23, .func (PySem.W.fnOf "ask_stretch" "ask_stretch" (defArgs s23) (defBody s23) (defScope s23) .none kV23 dc23 pm23 an23 cd23 ct23), sl23⟩)
    (c23_ : PySem.W.codeIn K cd23 "ask_stretch" = true)
    (k23_ : PySem.W.keepIn K (.ref f23) = true)
    (a24 : PySem.W.nsIn K mainGlobals "turned_part" = some (some (.ref f24)))
    (l24 : K.lookup f24 = some ⟨oc24, od24, .func (PySem.W.fnOf "turned_part" "turned_part" (defArgs s24) (defBody s24) (defScope s24) .none kV24 dc24 pm24 an24 cd24 ct24), sl24⟩)
    (c24_ : PySem.W.codeIn K cd24 "turned_part" = true)
    (k24_ : PySem.W.keepIn K (.ref f24) = true)
    (a25 : PySem.W.nsIn K mainGlobals "_law_cell" = some (some (.ref f25)))
    (l25 : K.lookup f25 = some ⟨oc25, od25, .func (PySem.W.fnOf "_law_cell" "_law_cell" (defArgs s25) (defBody s25) (defScope s25) .none kV25 dc25 pm25 an25 cd25 ct25), sl25⟩)
    (c25_ : PySem.W.codeIn K cd25 "_law_cell" = true)
    (k25_ : PySem.W.keepIn K (.ref f25) = true)
    (a26 : PySem.W.nsIn K mainGlobals "_law_drawn" = some (some (.ref f26)))
    (l26 : K.lookup f26 = some ⟨oc26, od26, .func (PySem.W.fnOf "_law_drawn" "_law_drawn" (defArgs s26) (defBody s26) (defScope s26) .none kV26 dc26 pm26 an26 cd26 ct26), sl26⟩)
    (c26_ : PySem.W.codeIn K cd26 "_law_drawn" = true)
    (k26_ : PySem.W.keepIn K (.ref f26) = true)
    (a27 : PySem.W.nsIn K mainGlobals "_law_thing" = some (some (.ref f27)))
    (l27 : K.lookup f27 = some ⟨oc27, od27, .func (PySem.W.fnOf "_law_thing" "_law_thing" (defArgs s27) (defBody s27) (defScope s27) .none kV27 dc27 pm27 an27 cd27 ct27), sl27⟩)
    (c27_ : PySem.W.codeIn K cd27 "_law_thing" = true)
    (k27_ : PySem.W.keepIn K (.ref f27) = true)
    (a28 : PySem.W.nsIn K mainGlobals "_law_amount" = some (some (.ref f28)))
    (l28 : K.lookup f28 = some ⟨oc28, od28, .func (PySem.W.fnOf "_law_amount" "_law_amount" (defArgs s28) (defBody s28) (defScope s28) .none kV28 dc28 pm28 an28 cd28 ct28), sl28⟩)
    (c28_ : PySem.W.codeIn K cd28 "_law_amount" = true)
    (k28_ : PySem.W.keepIn K (.ref f28) = true)
    (a29 : PySem.W.nsIn K mainGlobals "_law_deed" = some (some (.ref f29)))
    (l29 : K.lookup f29 = some ⟨oc29, od29, .func (PySem.W.fnOf "_law_deed" "_law_deed" (defArgs s29) (defBody s29) (defScope s29) .none kV29 dc29 pm29 an29 cd29 ct29), sl29⟩)
    (c29_ : PySem.W.codeIn K cd29 "_law_deed" = true)
    (k29_ : PySem.W.keepIn K (.ref f29) = true)
    (a30 : PySem.W.nsIn K mainGlobals "_law_bad" = some (some (.ref f30)))
    (l30 : K.lookup f30 = some ⟨oc30, od30, .func (PySem.W.fnOf "_law_bad" "_law_bad" (defArgs s30) (defBody s30) (defScope s30) .none kV30 dc30 pm30 an30 cd30 ct30), sl30⟩)
    (c30_ : PySem.W.codeIn K cd30 "_law_bad" = true)
    (k30_ : PySem.W.keepIn K (.ref f30) = true)
    (a31 : PySem.W.nsIn K mainGlobals "_law_kind_of" = some (some (.ref f31)))
    (l31 : K.lookup f31 = some ⟨oc31, od31, .func (PySem.W.fnOf "_law_kind_of" "_law_kind_of" (defArgs s31) (defBody s31) (defScope s31) .none kV31 dc31 pm31 an31 cd31 ct31), sl31⟩)
    (c31_ : PySem.W.codeIn K cd31 "_law_kind_of" = true)
    (k31_ : PySem.W.keepIn K (.ref f31) = true)
    (a32 : PySem.W.nsIn K mainGlobals "_law_refused" = some (some (.ref f32)))
    (l32 : K.lookup f32 = some ⟨oc32, od32, .func (PySem.W.fnOf "_law_refused" "_law_refused" (defArgs s32) (defBody s32) (defScope s32) .none kV32 dc32 pm32 an32 cd32 ct32), sl32⟩)
    (c32_ : PySem.W.codeIn K cd32 "_law_refused" = true)
    (k32_ : PySem.W.keepIn K (.ref f32) = true)
    (a33 : PySem.W.nsIn K mainGlobals "_law_more" = some (some (.ref f33)))
    (l33 : K.lookup f33 = some ⟨oc33, od33, .func (PySem.W.fnOf "_law_more" "_law_more" (defArgs s33) (defBody s33) (defScope s33) .none kV33 dc33 pm33 an33 cd33 ct33), sl33⟩)
    (c33_ : PySem.W.codeIn K cd33 "_law_more" = true)
    (k33_ : PySem.W.keepIn K (.ref f33) = true)
    (a34 : PySem.W.nsIn K mainGlobals "_law_not_made" = some (some (.ref f34)))
    (l34 : K.lookup f34 = some ⟨oc34, od34, .func (PySem.W.fnOf "_law_not_made" "_law_not_made" (defArgs s34) (defBody s34) (defScope s34) .none kV34 dc34 pm34 an34 cd34 ct34), sl34⟩)
    (c34_ : PySem.W.codeIn K cd34 "_law_not_made" = true)
    (k34_ : PySem.W.keepIn K (.ref f34) = true)
    (a35 : PySem.W.nsIn K mainGlobals "_law_full" = some (some (.ref f35)))
    (l35 : K.lookup f35 = some ⟨oc35, od35, .func (PySem.W.fnOf "_law_full" "_law_full" (defArgs s35) (defBody s35) (defScope s35) .none kV35 dc35 pm35 an35 cd35 ct35), sl35⟩)
    (c35_ : PySem.W.codeIn K cd35 "_law_full" = true)
    (k35_ : PySem.W.keepIn K (.ref f35) = true)
    (a36 : PySem.W.nsIn K mainGlobals "law" = some (some (.ref f36)))
    (l36 : K.lookup f36 = some ⟨oc36, od36, .func (PySem.W.fnOf "law" "law" (defArgs s36) (defBody s36) (defScope s36) .none kV36 dc36 pm36 an36 cd36 ct36), sl36⟩)
    (c36_ : PySem.W.codeIn K cd36 "law" = true)
    (k36_ : PySem.W.keepIn K (.ref f36) = true)
    (a37 : PySem.W.nsIn K mainGlobals "put_rows" = some (some (.ref f37)))
    (l37 : K.lookup f37 = some ⟨oc37, od37, .func (PySem.W.fnOf "put" "put" (defArgs s37) (defBody s37) (defScope s37) .none kV37 dc37 pm37 an37 cd37 ct37), sl37⟩)
    (c37_ : PySem.W.codeIn K cd37 "put" = true)
    (k37_ : PySem.W.keepIn K (.ref f37) = true)
    (a38 : PySem.W.nsIn K mainGlobals "out_rows" = some (some (.ref f38)))
    (l38 : K.lookup f38 = some ⟨oc38, od38, .func (PySem.W.fnOf "out" "out" (defArgs s38) (defBody s38) (defScope s38) .none kV38 dc38 pm38 an38 cd38 ct38), sl38⟩)
    (c38_ : PySem.W.codeIn K cd38 "out" = true)
    (k38_ : PySem.W.keepIn K (.ref f38) = true)
    (a39 : PySem.W.nsIn K mainGlobals "laid_rows" = some (some (.ref f39)))
    (l39 : K.lookup f39 = some ⟨oc39, od39, .func (PySem.W.fnOf "laid" "laid" (defArgs s39) (defBody s39) (defScope s39) .none kV39 dc39 pm39 an39 cd39 ct39), sl39⟩)
    (c39_ : PySem.W.codeIn K cd39 "laid" = true)
    (k39_ : PySem.W.keepIn K (.ref f39) = true)
    (a40 : PySem.W.nsIn K mainGlobals "cut_rows" = some (some (.ref f40)))
    (l40 : K.lookup f40 = some ⟨oc40, od40, .func (PySem.W.fnOf "cut" "cut" (defArgs s40) (defBody s40) (defScope s40) .none kV40 dc40 pm40 an40 cd40 ct40), sl40⟩)
    (c40_ : PySem.W.codeIn K cd40 "cut" = true)
    (k40_ : PySem.W.keepIn K (.ref f40) = true)
    (a41 : PySem.W.findIn K (.ref C1) "__init__" = some (some (.ref f41)))
    (i41 : PySem.W.isFn K (.ref f41) = true)
    (l41 : K.lookup f41 = some ⟨oc41, od41, .func (PySem.W.fnOf "__init__" "Wood.__init__" (defArgs s41) (defBody s41) (defScope s41) (.ref T41) kV41 dc41 pm41 an41 cd41 ct41), sl41⟩)
    (T41_ : K.lookup T41 = some ⟨tc41, td41, .seq #[Value.none] tn41, ts41⟩)
    (c41_ : PySem.W.codeIn K cd41 "Wood.__init__" = true)
    (k41_ : PySem.W.keepIn K (.ref f41) = true)
    (a42 : PySem.W.findIn K (.ref C1) "made" = some (some (.ref f42)))
    (i42 : PySem.W.isFn K (.ref f42) = true)
    (l42 : K.lookup f42 = some ⟨oc42, od42, .func (PySem.W.fnOf "made" "Wood.made" (defArgs s42) (defBody s42) (defScope s42) .none kV42 dc42 pm42 an42 cd42 ct42), sl42⟩)
    (c42_ : PySem.W.codeIn K cd42 "Wood.made" = true)
    (k42_ : PySem.W.keepIn K (.ref f42) = true)
    (a43 : PySem.W.findIn K (.ref C1) "next_number" = some (some (.ref f43)))
    (i43 : PySem.W.isFn K (.ref f43) = true)
    (l43 : K.lookup f43 = some ⟨oc43, od43, .func (PySem.W.fnOf "next_number" "Wood.next_number" (defArgs s43) (defBody s43) (defScope s43) .none kV43 dc43 pm43 an43 cd43 ct43), sl43⟩)
    (c43_ : PySem.W.codeIn K cd43 "Wood.next_number" = true)
    (k43_ : PySem.W.keepIn K (.ref f43) = true)
    (a44 : PySem.W.findIn K (.ref C1) "node" = some (some (.ref f44)))
    (i44 : PySem.W.isFn K (.ref f44) = true)
    (l44 : K.lookup f44 = some ⟨oc44, od44, .func (PySem.W.fnOf "node" "Wood.node" (defArgs s44) (defBody s44) (defScope s44) .none kV44 dc44 pm44 an44 cd44 ct44), sl44⟩)
    (c44_ : PySem.W.codeIn K cd44 "Wood.node" = true)
    (k44_ : PySem.W.keepIn K (.ref f44) = true)
    (a45 : PySem.W.findIn K (.ref C1) "turned" = some (some (.ref f45)))
    (i45 : PySem.W.isFn K (.ref f45) = true)
    (l45 : K.lookup f45 = some ⟨oc45, od45, .func (PySem.W.fnOf "turned" "Wood.turned" (defArgs s45) (defBody s45) (defScope s45) .none kV45 dc45 pm45 an45 cd45 ct45), sl45⟩)
    (c45_ : PySem.W.codeIn K cd45 "Wood.turned" = true)
    (k45_ : PySem.W.keepIn K (.ref f45) = true)
    (a46 : PySem.W.findIn K (.ref C0) "__init__" = some (some (.ref f46)))
    (i46 : PySem.W.isFn K (.ref f46) = true)
    (l46 : K.lookup f46 = some ⟨oc46, od46, .func (PySem.W.fnOf "__init__" "Shelf.__init__" (defArgs s46) (defBody s46) (defScope s46) (.ref T46) kV46 dc46 pm46 an46 cd46 ct46), sl46⟩)
    (T46_ : K.lookup T46 = some ⟨tc46, td46, .seq #[Value.none] tn46, ts46⟩)
    (c46_ : PySem.W.codeIn K cd46 "Shelf.__init__" = true)
    (k46_ : PySem.W.keepIn K (.ref f46) = true)
    (a47 : PySem.W.findIn K (.ref C0) "make" = some (some (.ref f47)))
    (i47 : PySem.W.isFn K (.ref f47) = true)
    (l47 : K.lookup f47 = some ⟨oc47, od47, .func (PySem.W.fnOf "make" "Shelf.make" (defArgs s47) (defBody s47) (defScope s47) .none kV47 dc47 pm47 an47 cd47 ct47), sl47⟩)
    (c47_ : PySem.W.codeIn K cd47 "Shelf.make" = true)
    (k47_ : PySem.W.keepIn K (.ref f47) = true)
    (a48 : PySem.W.findIn K (.ref C0) "things" = some (some (.ref f48)))
    (i48 : PySem.W.isFn K (.ref f48) = true)
    (l48 : K.lookup f48 = some ⟨oc48, od48, .func (PySem.W.fnOf "things" "Shelf.things" (defArgs s48) (defBody s48) (defScope s48) .none kV48 dc48 pm48 an48 cd48 ct48), sl48⟩)
    (c48_ : PySem.W.codeIn K cd48 "Shelf.things" = true)
    (k48_ : PySem.W.keepIn K (.ref f48) = true)
    (a49 : PySem.W.findIn K (.ref C0) "deeds" = some (some (.ref f49)))
    (i49 : PySem.W.isFn K (.ref f49) = true)
    (l49 : K.lookup f49 = some ⟨oc49, od49, .func (PySem.W.fnOf "deeds" "Shelf.deeds" (defArgs s49) (defBody s49) (defScope s49) .none kV49 dc49 pm49 an49 cd49 ct49), sl49⟩)
    (c49_ : PySem.W.codeIn K cd49 "Shelf.deeds" = true)
    (k49_ : PySem.W.keepIn K (.ref f49) = true)
    (a50 : PySem.W.findIn K (.ref C0) "hold" = some (some (.ref f50)))
    (i50 : PySem.W.isFn K (.ref f50) = true)
    (l50 : K.lookup f50 = some ⟨oc50, od50, .func (PySem.W.fnOf "hold" "Shelf.hold" (defArgs s50) (defBody s50) (defScope s50) .none kV50 dc50 pm50 an50 cd50 ct50), sl50⟩)
    (c50_ : PySem.W.codeIn K cd50 "Shelf.hold" = true)
    (k50_ : PySem.W.keepIn K (.ref f50) = true)
    (a51 : PySem.W.findIn K (.ref C0) "put" = some (some (.ref f51)))
    (i51 : PySem.W.isFn K (.ref f51) = true)
    (l51 : K.lookup f51 = some ⟨oc51, od51, .func (PySem.W.fnOf "put" "Shelf.put" (defArgs s51) (defBody s51) (defScope s51) .none kV51 dc51 pm51 an51 cd51 ct51), sl51⟩)
    (c51_ : PySem.W.codeIn K cd51 "Shelf.put" = true)
    (k51_ : PySem.W.keepIn K (.ref f51) = true)
    (a52 : PySem.W.findIn K (.ref C0) "out" = some (some (.ref f52)))
    (i52 : PySem.W.isFn K (.ref f52) = true)
    (l52 : K.lookup f52 = some ⟨oc52, od52, .func (PySem.W.fnOf "out" "Shelf.out" (defArgs s52) (defBody s52) (defScope s52) .none kV52 dc52 pm52 an52 cd52 ct52), sl52⟩)
    (c52_ : PySem.W.codeIn K cd52 "Shelf.out" = true)
    (k52_ : PySem.W.keepIn K (.ref f52) = true)
    (a53 : PySem.W.findIn K (.ref C0) "swap" = some (some (.ref f53)))
    (i53 : PySem.W.isFn K (.ref f53) = true)
    (l53 : K.lookup f53 = some ⟨oc53, od53, .func (PySem.W.fnOf "swap" "Shelf.swap" (defArgs s53) (defBody s53) (defScope s53) .none kV53 dc53 pm53 an53 cd53 ct53), sl53⟩)
    (c53_ : PySem.W.codeIn K cd53 "Shelf.swap" = true)
    (k53_ : PySem.W.keepIn K (.ref f53) = true)
    (a54 : PySem.W.findIn K (.ref C0) "turned" = some (some (.ref f54)))
    (i54 : PySem.W.isFn K (.ref f54) = true)
    (l54 : K.lookup f54 = some ⟨oc54, od54, .func (PySem.W.fnOf "turned" "Shelf.turned" (defArgs s54) (defBody s54) (defScope s54) .none kV54 dc54 pm54 an54 cd54 ct54), sl54⟩)
    (c54_ : PySem.W.codeIn K cd54 "Shelf.turned" = true)
    (k54_ : PySem.W.keepIn K (.ref f54) = true)
    (a55 : PySem.W.findIn K (.ref C0) "laid" = some (some (.ref f55)))
    (i55 : PySem.W.isFn K (.ref f55) = true)
    (l55 : K.lookup f55 = some ⟨oc55, od55, .func (PySem.W.fnOf "laid" "Shelf.laid" (defArgs s55) (defBody s55) (defScope s55) .none kV55 dc55 pm55 an55 cd55 ct55), sl55⟩)
    (c55_ : PySem.W.codeIn K cd55 "Shelf.laid" = true)
    (k55_ : PySem.W.keepIn K (.ref f55) = true)
    (a56 : PySem.W.findIn K (.ref C0) "cut" = some (some (.ref f56)))
    (i56 : PySem.W.isFn K (.ref f56) = true)
    (l56 : K.lookup f56 = some ⟨oc56, od56, .func (PySem.W.fnOf "cut" "Shelf.cut" (defArgs s56) (defBody s56) (defScope s56) .none kV56 dc56 pm56 an56 cd56 ct56), sl56⟩)
    (c56_ : PySem.W.codeIn K cd56 "Shelf.cut" = true)
    (k56_ : PySem.W.keepIn K (.ref f56) = true)
    (a57 : PySem.W.findIn K (.ref C0) "back" = some (some (.ref f57)))
    (i57 : PySem.W.isFn K (.ref f57) = true)
    (l57 : K.lookup f57 = some ⟨oc57, od57, .func (PySem.W.fnOf "back" "Shelf.back" (defArgs s57) (defBody s57) (defScope s57) .none kV57 dc57 pm57 an57 cd57 ct57), sl57⟩)
    (c57_ : PySem.W.codeIn K cd57 "Shelf.back" = true)
    (k57_ : PySem.W.keepIn K (.ref f57) = true)
    : ∃ fd : FuncData, (∀ (s : Shared) (v : Value), BindsTo s fd ⟨[v], []⟩ [("_law_script", v)]) ∧ ∀ base : Heap, K.In base → base.Ns mainGlobals mg → FnOk l.prog w K mg base (L2.CX l.prog w) (2 * n) fa fd ["_law_script"] (spScr K) := by
  have q : f36 = fa := by
    have q := (PySem.W.mg_of X M a36).symm.trans hfa
    cases q; rfl
  subst q
  have e0 := ent_mk (tb := []) (lm := false) (fun z => (by cases z)) (d := d_wall) (st := s0) (G := G) l0 c0_ k0_ c0 k0 (by decide +kernel) rfl (fun us hl => match us, hl with | [_], _ => rfl)
  have e1 := ent_mk (tb := []) (lm := false) (fun z => (by cases z)) (d := d_size) (st := s1) (G := G) l1 c1_ k1_ c1 k1 (by decide +kernel) rfl (fun us hl => match us, hl with | [_], _ => rfl)
  have e2 := ent_mk (tb := []) (lm := false) (fun z => (by cases z)) (d := d_height) (st := s2) (G := G) l2 c2_ k2_ c2 k2 (by decide +kernel) rfl (fun us hl => match us, hl with | [_], _ => rfl)
  have e3 := ent_mk (tb := []) (lm := false) (fun z => (by cases z)) (d := d_total) (st := s3) (G := G) l3 c3_ k3_ c3 k3 (by decide +kernel) rfl (fun us hl => match us, hl with | [_], _ => rfl)
  have e4 := ent_mk (tb := []) (lm := false) (fun z => (by cases z)) (d := d_back) (st := s4) (G := G) l4 c4_ k4_ c4 k4 (by decide +kernel) rfl (fun us hl => match us, hl with | [_], _ => rfl)
  have e5 := ent_mk (tb := []) (lm := false) (fun z => (by cases z)) (d := d_sums_of) (st := s5) (G := G) l5 c5_ k5_ c5 k5 (by decide +kernel) rfl (fun us hl => match us, hl with | [_, _, _, _], _ => rfl)
  have e6 := ent_mk (tb := []) (lm := false) (fun z => (by cases z)) (d := d_parts) (st := s6) (G := G) l6 c6_ k6_ c6 k6 (by decide +kernel) rfl (fun us hl => match us, hl with | [_, _], _ => rfl)
  have e7 := ent_mk (tb := []) (lm := false) (fun z => (by cases z)) (d := d_ask_place) (st := s7) (G := G) l7 c7_ k7_ c7 k7 (by decide +kernel) rfl (fun us hl => match us, hl with | [_, _, _], _ => rfl)
  have e8 := ent_mk (tb := []) (lm := false) (fun z => (by cases z)) (d := d_made_between) (st := s8) (G := G) l8 c8_ k8_ c8 k8 (by decide +kernel) rfl (fun us hl => match us, hl with | [_, _, _, _], _ => rfl)
  have e9 := ent_mk (tb := []) (lm := false) (fun z => (by cases z)) (d := d_make_of) (st := s9) (G := G) l9 c9_ k9_ c9 k9 (by decide +kernel) rfl (fun us hl => match us, hl with | [_, _], _ => rfl)
  have e10 := ent_mk (tb := []) (lm := false) (fun z => (by cases z)) (d := d_things_of_2) (st := s10) (G := G) l10 c10_ k10_ c10 k10 (by decide +kernel) rfl (fun us hl => match us, hl with | [_], _ => rfl)
  have e11 := ent_mk (tb := []) (lm := false) (fun z => (by cases z)) (d := d_at) (st := s11) (G := G) l11 c11_ k11_ c11 k11 (by decide +kernel) rfl (fun us hl => match us, hl with | [_, _], _ => rfl)
  have e12 := ent_mk (tb := []) (lm := false) (fun z => (by cases z)) (d := d_leaning_left) (st := s12) (G := G) l12 c12_ k12_ c12 k12 (by decide +kernel) rfl (fun us hl => match us, hl with | [_, _, _, _], _ => rfl)
  have e13 := ent_mk (tb := []) (lm := false) (fun z => (by cases z)) (d := d_leaning_right) (st := s13) (G := G) l13 c13_ k13_ c13 k13 (by decide +kernel) rfl (fun us hl => match us, hl with | [_, _, _, _], _ => rfl)
  have e14 := ent_mk (tb := []) (lm := false) (fun z => (by cases z)) (d := d_evened) (st := s14) (G := G) l14 c14_ k14_ c14 k14 (by decide +kernel) rfl (fun us hl => match us, hl with | [_, _, _, _], _ => rfl)
  have e15 := ent_mk (tb := []) (lm := false) (fun z => (by cases z)) (d := d_joined) (st := s15) (G := G) l15 c15_ k15_ c15 k15 (by decide +kernel) rfl (fun us hl => match us, hl with | [_, _, _, _], _ => rfl)
  have e16 := ent_mk (tb := []) (lm := false) (fun z => (by cases z)) (d := d_put_in) (st := s16) (G := G) l16 c16_ k16_ c16 k16 (by decide +kernel) rfl (fun us hl => match us, hl with | [_, _, _, _], _ => rfl)
  have e17 := ent_mk (tb := []) (lm := false) (fun z => (by cases z)) (d := d_without_last) (st := s17) (G := G) l17 c17_ k17_ c17 k17 (by decide +kernel) rfl (fun us hl => match us, hl with | [_, _], _ => rfl)
  have e18 := ent_mk (tb := []) (lm := false) (fun z => (by cases z)) (d := d_both) (st := s18) (G := G) l18 c18_ k18_ c18 k18 (by decide +kernel) rfl (fun us hl => match us, hl with | [_, _, _], _ => rfl)
  have e19 := ent_mk (tb := []) (lm := false) (fun z => (by cases z)) (d := d_taken_out) (st := s19) (G := G) l19 c19_ k19_ c19 k19 (by decide +kernel) rfl (fun us hl => match us, hl with | [_, _, _], _ => rfl)
  have e20 := ent_mk (tb := []) (lm := false) (fun z => (by cases z)) (d := d_swapped_in) (st := s20) (G := G) l20 c20_ k20_ c20 k20 (by decide +kernel) rfl (fun us hl => match us, hl with | [_, _, _, _], _ => rfl)
  have e21 := ent_mk (tb := []) (lm := false) (fun z => (by cases z)) (d := d_swapped) (st := s21) (G := G) l21 c21_ k21_ c21 k21 (by decide +kernel) rfl (fun us hl => match us, hl with | [_, _, _, _], _ => rfl)
  have e22 := ent_mk (tb := []) (lm := false) (fun z => (by cases z)) (d := d_cut_at) (st := s22) (G := G) l22 c22_ k22_ c22 k22 (by decide +kernel) rfl (fun us hl => match us, hl with | [_, _, _], _ => rfl)
  have e23 := ent_mk (tb := []) (lm := false) (fun z => (by cases z)) (d := d_ask_stretch) (st := s23) (G := G) l23 c23_ k23_ c23 k23 (by decide +kernel) rfl (fun us hl => match us, hl with | [_, _, _], _ => rfl)
  have e24 := ent_mk (tb := []) (lm := false) (fun z => (by cases z)) (d := d_turned_part) (st := s24) (G := G) l24 c24_ k24_ c24 k24 (by decide +kernel) rfl (fun us hl => match us, hl with | [_, _, _, _], _ => rfl)
  have e25 := ent_mk (tb := []) (lm := false) (fun z => (by cases z)) (d := d_cell_3) (st := s25) (G := G) l25 c25_ k25_ c25 k25 (by decide +kernel) rfl (fun us hl => match us, hl with | [_, _], _ => rfl)
  have e26 := ent_mk (tb := []) (lm := false) (fun z => (by cases z)) (d := d_drawn) (st := s26) (G := G) l26 c26_ k26_ c26 k26 (by decide +kernel) rfl (fun us hl => match us, hl with | [_, _], _ => rfl)
  have e27 := ent_mk (tb := []) (lm := false) (fun z => (by cases z)) (d := d_thing_7) (st := s27) (G := G) l27 c27_ k27_ c27 k27 (by decide +kernel) rfl (fun us hl => match us, hl with | [_, _], _ => rfl)
  have e28 := ent_mk (tb := []) (lm := false) (fun z => (by cases z)) (d := d_amount) (st := s28) (G := G) l28 c28_ k28_ c28 k28 (by decide +kernel) rfl (fun us hl => match us, hl with | [_], _ => rfl)
  have e29 := ent_mk (tb := []) (lm := false) (fun z => (by cases z)) (d := d_deed_8) (st := s29) (G := G) l29 c29_ k29_ c29 k29 (by decide +kernel) rfl (fun us hl => match us, hl with | [_, _, _, _, _], _ => rfl)
  have e30 := ent_mk (tb := []) (lm := false) (fun z => (by cases z)) (d := d_bad) (st := s30) (G := G) l30 c30_ k30_ c30 k30 (by decide +kernel) rfl (fun us hl => match us, hl with | [_, _, _, _], _ => rfl)
  have e31 := ent_mk (tb := []) (lm := false) (fun z => (by cases z)) (d := d_kind_of_3) (st := s31) (G := G) l31 c31_ k31_ c31 k31 (by decide +kernel) rfl (fun us hl => match us, hl with | [_], _ => rfl)
  have e32 := ent_mk (tb := []) (lm := false) (fun z => (by cases z)) (d := d_refused_2) (st := s32) (G := G) l32 c32_ k32_ c32 k32 (by decide +kernel) rfl (fun us hl => match us, hl with | [_, _, _, _], _ => rfl)
  have e33 := ent_mk (tb := []) (lm := false) (fun z => (by cases z)) (d := d_more) (st := s33) (G := G) l33 c33_ k33_ c33 k33 (by decide +kernel) rfl (fun us hl => match us, hl with | [_, _, _], _ => rfl)
  have e34 := ent_mk (tb := []) (lm := false) (fun z => (by cases z)) (d := d_not_made) (st := s34) (G := G) l34 c34_ k34_ c34 k34 (by decide +kernel) rfl (fun us hl => match us, hl with | [_], _ => rfl)
  have e35 := ent_mk (tb := []) (lm := false) (fun z => (by cases z)) (d := d_full) (st := s35) (G := G) l35 c35_ k35_ c35 k35 (by decide +kernel) rfl (fun us hl => match us, hl with | [_, _, _], _ => rfl)
  have e36 := ent_mk (tb := []) (lm := false) (fun z => (by cases z)) (d := d_law_25) (st := s36) (G := G) l36 c36_ k36_ c36 k36 (by decide +kernel) rfl (fun us hl => match us, hl with | [_], _ => rfl)
  have e37 := ent_mk (tb := []) (lm := false) (fun z => (by cases z)) (d := d_put) (st := s37) (G := G) l37 c37_ k37_ c37 k37 (by decide +kernel) rfl (fun us hl => match us, hl with | [_, _, _, _], _ => rfl)
  have e38 := ent_mk (tb := []) (lm := false) (fun z => (by cases z)) (d := d_out) (st := s38) (G := G) l38 c38_ k38_ c38 k38 (by decide +kernel) rfl (fun us hl => match us, hl with | [_, _, _], _ => rfl)
  have e39 := ent_mk (tb := []) (lm := false) (fun z => (by cases z)) (d := d_laid) (st := s39) (G := G) l39 c39_ k39_ c39 k39 (by decide +kernel) rfl (fun us hl => match us, hl with | [_, _, _], _ => rfl)
  have e40 := ent_mk (tb := []) (lm := false) (fun z => (by cases z)) (d := d_cut) (st := s40) (G := G) l40 c40_ k40_ c40 k40 (by decide +kernel) rfl (fun us hl => match us, hl with | [_, _, _], _ => rfl)
  have e41 := ent_mk1 (tb := []) (lm := false) (fun z => (by cases z)) (d := d_Wood_init) (st := s41) (G := G) l41 c41_ k41_ T41_ c41 k41 (by decide +kernel) rfl (fun us hl => match us, hl with | [_, _], _ => ⟨_, rfl, rfl⟩) (fun us hl => match us, hl with | [_], _ => ⟨_, rfl, rfl⟩)
  have e42 := ent_mk (tb := []) (lm := false) (fun z => (by cases z)) (d := d_Wood_made_2) (st := s42) (G := G) l42 c42_ k42_ c42 k42 (by decide +kernel) rfl (fun us hl => match us, hl with | [_], _ => rfl)
  have e43 := ent_mk (tb := []) (lm := false) (fun z => (by cases z)) (d := d_Wood_next_number) (st := s43) (G := G) l43 c43_ k43_ c43 k43 (by decide +kernel) rfl (fun us hl => match us, hl with | [_], _ => rfl)
  have e44 := ent_mk (tb := []) (lm := false) (fun z => (by cases z)) (d := d_Wood_node) (st := s44) (G := G) l44 c44_ k44_ c44 k44 (by decide +kernel) rfl (fun us hl => match us, hl with | [_, _, _, _], _ => rfl)
  have e45 := ent_mk (tb := []) (lm := false) (fun z => (by cases z)) (d := d_Wood_turned) (st := s45) (G := G) l45 c45_ k45_ c45 k45 (by decide +kernel) rfl (fun us hl => match us, hl with | [_, _], _ => rfl)
  have e46 := ent_mk1 (tb := []) (lm := false) (fun z => (by cases z)) (d := d_Shelf_init) (st := s46) (G := G) l46 c46_ k46_ T46_ c46 k46 (by decide +kernel) rfl (fun us hl => match us, hl with | [_, _, _], _ => ⟨_, rfl, rfl⟩) (fun us hl => match us, hl with | [_, _], _ => ⟨_, rfl, rfl⟩)
  have e47 := ent_mk (tb := []) (lm := false) (fun z => (by cases z)) (d := d_Shelf_make) (st := s47) (G := G) l47 c47_ k47_ c47 k47 (by decide +kernel) rfl (fun us hl => match us, hl with | [_], _ => rfl)
  have e48 := ent_mk (tb := []) (lm := false) (fun z => (by cases z)) (d := d_Shelf_things) (st := s48) (G := G) l48 c48_ k48_ c48 k48 (by decide +kernel) rfl (fun us hl => match us, hl with | [_], _ => rfl)
  have e49 := ent_mk (tb := []) (lm := false) (fun z => (by cases z)) (d := d_Shelf_deeds) (st := s49) (G := G) l49 c49_ k49_ c49 k49 (by decide +kernel) rfl (fun us hl => match us, hl with | [_], _ => rfl)
  have e50 := ent_mk (tb := []) (lm := false) (fun z => (by cases z)) (d := d_Shelf_hold) (st := s50) (G := G) l50 c50_ k50_ c50 k50 (by decide +kernel) rfl (fun us hl => match us, hl with | [_, _, _], _ => rfl)
  have e51 := ent_mk (tb := []) (lm := false) (fun z => (by cases z)) (d := d_Shelf_put) (st := s51) (G := G) l51 c51_ k51_ c51 k51 (by decide +kernel) rfl (fun us hl => match us, hl with | [_, _, _], _ => rfl)
  have e52 := ent_mk (tb := []) (lm := false) (fun z => (by cases z)) (d := d_Shelf_out) (st := s52) (G := G) l52 c52_ k52_ c52 k52 (by decide +kernel) rfl (fun us hl => match us, hl with | [_, _], _ => rfl)
  have e53 := ent_mk (tb := []) (lm := false) (fun z => (by cases z)) (d := d_Shelf_swap) (st := s53) (G := G) l53 c53_ k53_ c53 k53 (by decide +kernel) rfl (fun us hl => match us, hl with | [_, _, _], _ => rfl)
  have e54 := ent_mk (tb := []) (lm := false) (fun z => (by cases z)) (d := d_Shelf_turned) (st := s54) (G := G) l54 c54_ k54_ c54 k54 (by decide +kernel) rfl (fun us hl => match us, hl with | [_, _, _], _ => rfl)
  have e55 := ent_mk (tb := []) (lm := false) (fun z => (by cases z)) (d := d_Shelf_laid) (st := s55) (G := G) l55 c55_ k55_ c55 k55 (by decide +kernel) rfl (fun us hl => match us, hl with | [_, _], _ => rfl)
  have e56 := ent_mk (tb := []) (lm := false) (fun z => (by cases z)) (d := d_Shelf_cut_2) (st := s56) (G := G) l56 c56_ k56_ c56 k56 (by decide +kernel) rfl (fun us hl => match us, hl with | [_, _], _ => rfl)
  have e57 := ent_mk (tb := []) (lm := false) (fun z => (by cases z)) (d := d_Shelf_back_2) (st := s57) (G := G) l57 c57_ k57_ c57 k57 (by decide +kernel) rfl (fun us hl => match us, hl with | [_, _], _ => rfl)
  have R : Rows K G ([]) (getS ["Shelf", "Wood"] [C0, C1]) keys defs [f0, f1, f2, f3, f4, f5, f6, f7, f8, f9, f10, f11, f12, f13, f14, f15, f16, f17, f18, f19, f20, f21, f22, f23, f24, f25, f26, f27, f28, f29, f30, f31, f32, f33, f34, f35, f36, f37, f38, f39, f40, f41, f42, f43, f44, f45, f46, f47, f48, f49, f50, f51, f52, f53, f54, f55, f56, f57] := (.cons e0 (fun C m z => by cases z)
    (.cons e1 (fun C m z => by cases z)
    (.cons e2 (fun C m z => by cases z)
    (.cons e3 (fun C m z => by cases z)
    (.cons e4 (fun C m z => by cases z)
    (.cons e5 (fun C m z => by cases z)
    (.cons e6 (fun C m z => by cases z)
    (.cons e7 (fun C m z => by cases z)
    (.cons e8 (fun C m z => by cases z)
    (.cons e9 (fun C m z => by cases z)
    (.cons e10 (fun C m z => by cases z)
    (.cons e11 (fun C m z => by cases z)
    (.cons e12 (fun C m z => by cases z)
    (.cons e13 (fun C m z => by cases z)
    (.cons e14 (fun C m z => by cases z)
    (.cons e15 (fun C m z => by cases z)
    (.cons e16 (fun C m z => by cases z)
    (.cons e17 (fun C m z => by cases z)
    (.cons e18 (fun C m z => by cases z)
    (.cons e19 (fun C m z => by cases z)
    (.cons e20 (fun C m z => by cases z)
    (.cons e21 (fun C m z => by cases z)
    (.cons e22 (fun C m z => by cases z)
    (.cons e23 (fun C m z => by cases z)
    (.cons e24 (fun C m z => by cases z)
    (.cons e25 (fun C m z => by cases z)
    (.cons e26 (fun C m z => by cases z)
    (.cons e27 (fun C m z => by cases z)
    (.cons e28 (fun C m z => by cases z)
    (.cons e29 (fun C m z => by cases z)
    (.cons e30 (fun C m z => by cases z)
    (.cons e31 (fun C m z => by cases z)
    (.cons e32 (fun C m z => by cases z)
    (.cons e33 (fun C m z => by cases z)
    (.cons e34 (fun C m z => by cases z)
    (.cons e35 (fun C m z => by cases z)
    (.cons e36 (fun C m z => by cases z)
    (.cons e37 (fun C m z => by cases z)
    (.cons e38 (fun C m z => by cases z)
    (.cons e39 (fun C m z => by cases z)
    (.cons e40 (fun C m z => by cases z)
    (.cons e41 (fun C m z b hb => by cases z; cases hb; exact ⟨a41, i41, k41_⟩)
    (.cons e42 (fun C m z b hb => by cases z; cases hb; exact ⟨a42, i42, k42_⟩)
    (.cons e43 (fun C m z b hb => by cases z; cases hb; exact ⟨a43, i43, k43_⟩)
    (.cons e44 (fun C m z b hb => by cases z; cases hb; exact ⟨a44, i44, k44_⟩)
    (.cons e45 (fun C m z b hb => by cases z; cases hb; exact ⟨a45, i45, k45_⟩)
    (.cons e46 (fun C m z b hb => by cases z; cases hb; exact ⟨a46, i46, k46_⟩)
    (.cons e47 (fun C m z b hb => by cases z; cases hb; exact ⟨a47, i47, k47_⟩)
    (.cons e48 (fun C m z b hb => by cases z; cases hb; exact ⟨a48, i48, k48_⟩)
    (.cons e49 (fun C m z b hb => by cases z; cases hb; exact ⟨a49, i49, k49_⟩)
    (.cons e50 (fun C m z b hb => by cases z; cases hb; exact ⟨a50, i50, k50_⟩)
    (.cons e51 (fun C m z b hb => by cases z; cases hb; exact ⟨a51, i51, k51_⟩)
    (.cons e52 (fun C m z b hb => by cases z; cases hb; exact ⟨a52, i52, k52_⟩)
    (.cons e53 (fun C m z b hb => by cases z; cases hb; exact ⟨a53, i53, k53_⟩)
    (.cons e54 (fun C m z b hb => by cases z; cases hb; exact ⟨a54, i54, k54_⟩)
    (.cons e55 (fun C m z b hb => by cases z; cases hb; exact ⟨a55, i55, k55_⟩)
    (.cons e56 (fun C m z b hb => by cases z; cases hb; exact ⟨a56, i56, k56_⟩)
    (.cons e57 (fun C m z b hb => by cases z; cases hb; exact ⟨a57, i57, k57_⟩)
    (.rest fun _ _ => rfl)))))))))))))))))))))))))))))))))))))))))))))))))))))))))))
  have ex0 : ExcC K E0 := ⟨uA0, uB0, sE0, uD0, uC0, gn, gt, uM0⟩
  have ex1 : ExcC K E1 := ⟨uA1, uB1, sE1, uD1, uC1, gn, gt, uM1⟩
  have ex2 : ExcC K E2 := ⟨uA2, uB2, sE2, uD2, uC2, gn, gt, uM2⟩
  have wo := wo_mk (mg := mg) (en := ["NoBalance", "NoPlace", "TooMany"]) (ea := [E0, E1, E2]) R
    .nil
    (fun x ps b sc h => by cases h)
    (fa1 ⟨f28, (getK_at t28).trans rfl, PySem.W.mg_of X M a28⟩ (fa1 ⟨f30, (getK_at t30).trans rfl, PySem.W.mg_of X M a30⟩ (fa1 ⟨f25, (getK_at t25).trans rfl, PySem.W.mg_of X M a25⟩ (fa1 ⟨f29, (getK_at t29).trans rfl, PySem.W.mg_of X M a29⟩ (fa1 ⟨f26, (getK_at t26).trans rfl, PySem.W.mg_of X M a26⟩ (fa1 ⟨f35, (getK_at t35).trans rfl, PySem.W.mg_of X M a35⟩ (fa1 ⟨f31, (getK_at t31).trans rfl, PySem.W.mg_of X M a31⟩ (fa1 ⟨f33, (getK_at t33).trans rfl, PySem.W.mg_of X M a33⟩ (fa1 ⟨f34, (getK_at t34).trans rfl, PySem.W.mg_of X M a34⟩ (fa1 ⟨f32, (getK_at t32).trans rfl, PySem.W.mg_of X M a32⟩ (fa1 ⟨f27, (getK_at t27).trans rfl, PySem.W.mg_of X M a27⟩ (fa1 ⟨f0, (getK_at t0).trans rfl, PySem.W.mg_of X M a0⟩ (fa1 ⟨f7, (getK_at t7).trans rfl, PySem.W.mg_of X M a7⟩ (fa1 ⟨f23, (getK_at t23).trans rfl, PySem.W.mg_of X M a23⟩ (fa1 ⟨f11, (getK_at t11).trans rfl, PySem.W.mg_of X M a11⟩ (fa1 ⟨f4, (getK_at t4).trans rfl, PySem.W.mg_of X M a4⟩ (fa1 ⟨f18, (getK_at t18).trans rfl, PySem.W.mg_of X M a18⟩ (fa1 ⟨f22, (getK_at t22).trans rfl, PySem.W.mg_of X M a22⟩ (fa1 ⟨f40, (getK_at t40).trans rfl, PySem.W.mg_of X M a40⟩ (fa1 ⟨f14, (getK_at t14).trans rfl, PySem.W.mg_of X M a14⟩ (fa1 ⟨f2, (getK_at t2).trans rfl, PySem.W.mg_of X M a2⟩ (fa1 ⟨f15, (getK_at t15).trans rfl, PySem.W.mg_of X M a15⟩ (fa1 ⟨f39, (getK_at t39).trans rfl, PySem.W.mg_of X M a39⟩ (fa1 ⟨f12, (getK_at t12).trans rfl, PySem.W.mg_of X M a12⟩ (fa1 ⟨f13, (getK_at t13).trans rfl, PySem.W.mg_of X M a13⟩ (fa1 ⟨f8, (getK_at t8).trans rfl, PySem.W.mg_of X M a8⟩ (fa1 ⟨f9, (getK_at t9).trans rfl, PySem.W.mg_of X M a9⟩ (fa1 ⟨f38, (getK_at t38).trans rfl, PySem.W.mg_of X M a38⟩ (fa1 ⟨f6, (getK_at t6).trans rfl, PySem.W.mg_of X M a6⟩ (fa1 ⟨f16, (getK_at t16).trans rfl, PySem.W.mg_of X M a16⟩ (fa1 ⟨f37, (getK_at t37).trans rfl, PySem.W.mg_of X M a37⟩ (fa1 ⟨f1, (getK_at t1).trans rfl, PySem.W.mg_of X M a1⟩ (fa1 ⟨f5, (getK_at t5).trans rfl, PySem.W.mg_of X M a5⟩ (fa1 ⟨f21, (getK_at t21).trans rfl, PySem.W.mg_of X M a21⟩ (fa1 ⟨f20, (getK_at t20).trans rfl, PySem.W.mg_of X M a20⟩ (fa1 ⟨f19, (getK_at t19).trans rfl, PySem.W.mg_of X M a19⟩ (fa1 ⟨f10, (getK_at t10).trans rfl, PySem.W.mg_of X M a10⟩ (fa1 ⟨f3, (getK_at t3).trans rfl, PySem.W.mg_of X M a3⟩ (fa1 ⟨f24, (getK_at t24).trans rfl, PySem.W.mg_of X M a24⟩ (fa1 ⟨f17, (getK_at t17).trans rfl, PySem.W.mg_of X M a17⟩ fa0))))))))))))))))))))))))))))))))))))))))
    (fa1 ⟨C0, f46, rfl, PySem.W.mg_of X M aC0, (getK_at t46).trans rfl, ⟨mk0, a46, i46, kc0⟩⟩ (fa1 ⟨C1, f41, rfl, PySem.W.mg_of X M aC1, (getK_at t41).trans rfl, ⟨mk1, a41, i41, kc1⟩⟩ fa0))
    (.cons ⟨⟨pg0, hd0, po0, sa0⟩, (fa1 nf0_0 (fa1 nf0_1 (fa1 nf0_2 (fa1 nf0_3 (fa1 nf0_4 fa0)))))⟩ (.cons ⟨⟨pg1, hd1, po1, sa1⟩, (fa1 nf1_0 (fa1 nf1_1 (fa1 nf1_2 (fa1 nf1_3 (fa1 nf1_4 fa0)))))⟩ .nil))
    (fa1 ⟨v0, PySem.W.mg_of X M v0_⟩ fa0)
    (fa1 (PySem.W.mg_none_of X M z0) (fa1 (PySem.W.mg_none_of X M z1) (fa1 (PySem.W.mg_none_of X M z2) (fa1 (PySem.W.mg_none_of X M z3) (fa1 (PySem.W.mg_none_of X M z4) (fa1 (PySem.W.mg_none_of X M z5) (fa1 (PySem.W.mg_none_of X M z6) (fa1 (PySem.W.mg_none_of X M z7) fa0))))))))
    (fa1 ⟨E0, rfl, PySem.W.mg_of X M aE0, xE0, kE0, sE0, tE0⟩ (fa1 ⟨E1, rfl, PySem.W.mg_of X M aE1, xE1, kE1, sE1, tE1⟩ (fa1 ⟨E2, rfl, PySem.W.mg_of X M aE2, xE2, kE2, sE2, tE2⟩ fa0)))
    (fa1 (by rw [if_neg (by decide +kernel)]; exact ⟨O5, PySem.W.mg_of X M aO5, (fa1 ⟨E0, rfl, ex0, kit_mk iO5 tO5 s0O5 uS0⟩ (fa1 ⟨E1, rfl, ex1, kit_mk iO5 tO5 s1O5 uS1⟩ (fa1 ⟨E2, rfl, ex2, kit_mk iO5 tO5 s2O5 uS2⟩ fa0)))⟩) (fa1 (by rw [if_neg (by decide +kernel)]; exact ⟨O11, PySem.W.mg_of X M aO11, (fa1 ⟨E0, rfl, ex0, kit_mk iO11 tO11 s0O11 uS0⟩ (fa1 ⟨E1, rfl, ex1, kit_mk iO11 tO11 s1O11 uS1⟩ (fa1 ⟨E2, rfl, ex2, kit_mk iO11 tO11 s2O11 uS2⟩ fa0)))⟩) (fa1 (by rw [if_pos rfl]; exact ⟨PySem.W.mg_none_of X M zV, (fa1 ⟨E0, rfl, ex0, kit_mkT sV0⟩ (fa1 ⟨E1, rfl, ex1, kit_mkT sV1⟩ (fa1 ⟨E2, rfl, ex2, kit_mkT sV2⟩ fa0)))⟩) fa0)))
    (fa1 ⟨O10, PySem.W.mg_of X M aO10, (fa1 ⟨E0, rfl, exm_mk sO10 iO10 tO10 s0O10⟩ (fa1 ⟨E1, rfl, exm_mk sO10 iO10 tO10 s1O10⟩ (fa1 ⟨E2, rfl, exm_mk sO10 iO10 tO10 s2O10⟩ fa0)))⟩ fa0)
    (fa1 ⟨[O0, O1, O2, O3, O4, O6, O7, O8, O9], (.cons (PySem.W.mg_of X M aO0) (.cons (PySem.W.mg_of X M aO1) (.cons (PySem.W.mg_of X M aO2) (.cons (PySem.W.mg_of X M aO3) (.cons (PySem.W.mg_of X M aO4) (.cons (PySem.W.mg_of X M aO6) (.cons (PySem.W.mg_of X M aO7) (.cons (PySem.W.mg_of X M aO8) (.cons (PySem.W.mg_of X M aO9) .nil))))))))), (fa1 ⟨E0, rfl, ex0, (kit_no (kit_mk iO0 tO0 s0O0 uS0) (kit_yes (kit_mk iO1 tO1 s0O1 uS0)))⟩ (fa1 ⟨E1, rfl, ex1, (kit_no (kit_mk iO0 tO0 s1O0 uS1) (kit_no (kit_mk iO1 tO1 s1O1 uS1) (kit_no (kit_mk iO2 tO2 s1O2 uS1) (kit_no (kit_mk iO3 tO3 s1O3 uS1) (kit_no (kit_mk iO4 tO4 s1O4 uS1) (kit_no (kit_mk iO6 tO6 s1O6 uS1) (kit_no (kit_mk iO7 tO7 s1O7 uS1) (kit_no (kit_mk iO8 tO8 s1O8 uS1) (kit_no (kit_mk iO9 tO9 s1O9 uS1) rfl)))))))))⟩ (fa1 ⟨E2, rfl, ex2, (kit_no (kit_mk iO0 tO0 s2O0 uS2) (kit_no (kit_mk iO1 tO1 s2O1 uS2) (kit_no (kit_mk iO2 tO2 s2O2 uS2) (kit_no (kit_mk iO3 tO3 s2O3 uS2) (kit_no (kit_mk iO4 tO4 s2O4 uS2) (kit_no (kit_mk iO6 tO6 s2O6 uS2) (kit_no (kit_mk iO7 tO7 s2O7 uS2) (kit_no (kit_mk iO8 tO8 s2O8 uS2) (kit_no (kit_mk iO9 tO9 s2O9 uS2) rfl)))))))))⟩ fa0)))⟩ fa0)
  exact ⟨_, fun s v => .of_eq rfl, fun base _ _ => fin_ok wo rfl L t36 rfl rfl e36 rfl⟩
end Lw
namespace Lw
open PySem MP
def deep : Nat := 80
theorem hn : HN T := ⟨at_size, at_height, at_total, at_back, at_sums_of, at_Wood_next_number, at_Wood_node⟩
theorem h1 : HT1 T := ⟨hn, at_Wood_turned, at_parts⟩
theorem h2 : HT2 T := ⟨h1, at_leaning_left, at_leaning_right, at_evened, at_joined⟩
theorem hs : HSh T := ⟨h2, at_ask_place, at_ask_stretch, at_cut_at, at_without_last, at_both, at_turned_part, at_made_between, at_make_of, at_put_in, at_put_rows, at_taken_out, at_out_rows, at_swapped_in, at_swapped, at_at, at_Shelf_init, at_Shelf_make, at_Shelf_things, at_Shelf_hold, at_Shelf_put, at_Shelf_out, at_Shelf_swap, at_Shelf_turned⟩
theorem hl : HSl T := ⟨hs, at_laid_rows, at_cut_rows, at_Shelf_laid, at_Shelf_cut⟩
theorem law_math : Law T deep := law_k36 ⟨hl, at_things_of, at_Shelf_deeds, at_cell, at_drawn, at_thing, at_amount, at_deed, at_bad, at_kind_of, at_refused, at_more, at_not_made, at_full⟩ at_Wood_init at_law
end Lw

open PySem PySem.W PyProof.Rows
set_option maxRecDepth 100000 in
set_option maxHeartbeats 0 in
theorem PySem.Challenge.cw_ownshelf_k36_deeds_refused_holds : PySem.Challenge.rw_ownshelf_k36_deeds_refused.Holds := by
  w_on; o_law; k_head; (case hw => w_witness2)
  k_fill
  refine MP.walk (l := PySem.Challenge.rw_ownshelf_k36_deeds_refused) (k := 2 * Lw.deep) (x := "_law_script") rfl rfl ⟨rfl, by decide, by decide⟩ (fun w h Y => PySem.W.kIn_of Y) ?F
  case F =>
    intro w mg fa h KX G hmg
    refine' Lw.all_mk Lw.law_math KX G hmg ?aC0 ?pg0 ?hd0 ?po0 ?sa0 ?mk0 ?kc0 ?nf0_0 ?nf0_1 ?nf0_2 ?nf0_3 ?nf0_4 ?aC1 ?pg1 ?hd1 ?po1 ?sa1 ?mk1 ?kc1 ?nf1_0 ?nf1_1 ?nf1_2 ?nf1_3 ?nf1_4 ?aE0 ?xE0 ?kE0 ?sE0 ?tE0 ?aE1 ?xE1 ?kE1 ?sE1 ?tE1 ?aE2 ?xE2 ?kE2 ?sE2 ?tE2 ?gn ?gt ?uA0 ?uB0 ?uD0 ?uC0 ?uM0 ?uS0 ?uA1 ?uB1 ?uD1 ?uC1 ?uM1 ?uS1 ?uA2 ?uB2 ?uD2 ?uC2 ?uM2 ?uS2 ?aO0 ?iO0 ?tO0 ?sO0 ?s0O0 ?s1O0 ?s2O0 ?aO1 ?iO1 ?tO1 ?sO1 ?s0O1 ?s1O1 ?s2O1 ?aO2 ?iO2 ?tO2 ?sO2 ?s0O2 ?s1O2 ?s2O2 ?aO3 ?iO3 ?tO3 ?sO3 ?s0O3 ?s1O3 ?s2O3 ?aO4 ?iO4 ?tO4 ?sO4 ?s0O4 ?s1O4 ?s2O4 ?aO5 ?iO5 ?tO5 ?sO5 ?s0O5 ?s1O5 ?s2O5 ?aO6 ?iO6 ?tO6 ?sO6 ?s0O6 ?s1O6 ?s2O6 ?aO7 ?iO7 ?tO7 ?sO7 ?s0O7 ?s1O7 ?s2O7 ?aO8 ?iO8 ?tO8 ?sO8 ?s0O8 ?s1O8 ?s2O8 ?aO9 ?iO9 ?tO9 ?sO9 ?s0O9 ?s1O9 ?s2O9 ?aO10 ?iO10 ?tO10 ?sO10 ?s0O10 ?s1O10 ?s2O10 ?aO11 ?iO11 ?tO11 ?sO11 ?s0O11 ?s1O11 ?s2O11 ?zV ?sV0 ?sV1 ?sV2 ?z0 ?z1 ?z2 ?z3 ?z4 ?z5 ?z6 ?z7 ?v0_ ?a0 ?l0 ?c0_ ?k0_ ?a1 ?l1 ?c1_ ?k1_ ?a2 ?l2 ?c2_ ?k2_ ?a3 ?l3 ?c3_ ?k3_ ?a4 ?l4 ?c4_ ?k4_ ?a5 ?l5 ?c5_ ?k5_ ?a6 ?l6 ?c6_ ?k6_ ?a7 ?l7 ?c7_ ?k7_ ?a8 ?l8 ?c8_ ?k8_ ?a9 ?l9 ?c9_ ?k9_ ?a10 ?l10 ?c10_ ?k10_ ?a11 ?l11 ?c11_ ?k11_ ?a12 ?l12 ?c12_ ?k12_ ?a13 ?l13 ?c13_ ?k13_ ?a14 ?l14 ?c14_ ?k14_ ?a15 ?l15 ?c15_ ?k15_ ?a16 ?l16 ?c16_ ?k16_ ?a17 ?l17 ?c17_ ?k17_ ?a18 ?l18 ?c18_ ?k18_ ?a19 ?l19 ?c19_ ?k19_ ?a20 ?l20 ?c20_ ?k20_ ?a21 ?l21 ?c21_ ?k21_ ?a22 ?l22 ?c22_ ?k22_ ?a23 ?l23 ?c23_ ?k23_ ?a24 ?l24 ?c24_ ?k24_ ?a25 ?l25 ?c25_ ?k25_ ?a26 ?l26 ?c26_ ?k26_ ?a27 ?l27 ?c27_ ?k27_ ?a28 ?l28 ?c28_ ?k28_ ?a29 ?l29 ?c29_ ?k29_ ?a30 ?l30 ?c30_ ?k30_ ?a31 ?l31 ?c31_ ?k31_ ?a32 ?l32 ?c32_ ?k32_ ?a33 ?l33 ?c33_ ?k33_ ?a34 ?l34 ?c34_ ?k34_ ?a35 ?l35 ?c35_ ?k35_ ?a36 ?l36 ?c36_ ?k36_ ?a37 ?l37 ?c37_ ?k37_ ?a38 ?l38 ?c38_ ?k38_ ?a39 ?l39 ?c39_ ?k39_ ?a40 ?l40 ?c40_ ?k40_ ?a41 ?i41 ?l41 ?T41_ ?c41_ ?k41_ ?a42 ?i42 ?l42 ?c42_ ?k42_ ?a43 ?i43 ?l43 ?c43_ ?k43_ ?a44 ?i44 ?l44 ?c44_ ?k44_ ?a45 ?i45 ?l45 ?c45_ ?k45_ ?a46 ?i46 ?l46 ?T46_ ?c46_ ?k46_ ?a47 ?i47 ?l47 ?c47_ ?k47_ ?a48 ?i48 ?l48 ?c48_ ?k48_ ?a49 ?i49 ?l49 ?c49_ ?k49_ ?a50 ?i50 ?l50 ?c50_ ?k50_ ?a51 ?i51 ?l51 ?c51_ ?k51_ ?a52 ?i52 ?l52 ?c52_ ?k52_ ?a53 ?i53 ?l53 ?c53_ ?k53_ ?a54 ?i54 ?l54 ?c54_ ?k54_ ?a55 ?i55 ?l55 ?c55_ ?k55_ ?a56 ?i56 ?l56 ?c56_ ?k56_ ?a57 ?i57 ?l57 ?c57_ ?k57_
    (case aC0 => k_is)
    (case pg0 => k_is)
    (case hd0 => k_is)
    (case po0 => k_is)
    (case sa0 => k_is)
    (case mk0 => k_is)
    (case kc0 => k_is)
    (case nf0_0 => k_is)
    (case nf0_1 => k_is)
    (case nf0_2 => k_is)
    (case nf0_3 => k_is)
    (case nf0_4 => k_is)
    (case aC1 => k_is)
    (case pg1 => k_is)
    (case hd1 => k_is)
    (case po1 => k_is)
    (case sa1 => k_is)
    (case mk1 => k_is)
    (case kc1 => k_is)
    (case nf1_0 => k_is)
    (case nf1_1 => k_is)
    (case nf1_2 => k_is)
    (case nf1_3 => k_is)
    (case nf1_4 => k_is)
    (case aE0 => k_is)
    (case xE0 => k_exc)
    (case kE0 => k_is)
    (case sE0 => k_is)
    (case tE0 => k_is)
    (case aE1 => k_is)
    (case xE1 => k_exc)
    (case kE1 => k_is)
    (case sE1 => k_is)
    (case tE1 => k_is)
    (case aE2 => k_is)
    (case xE2 => k_exc)
    (case kE2 => k_is)
    (case sE2 => k_is)
    (case tE2 => k_is)
    (case gn => k_is)
    (case gt => k_is)
    (case uA0 => k_is)
    (case uB0 => k_is)
    (case uD0 => k_is)
    (case uC0 => k_is)
    (case uM0 => k_is)
    (case uS0 => k_is)
    (case uA1 => k_is)
    (case uB1 => k_is)
    (case uD1 => k_is)
    (case uC1 => k_is)
    (case uM1 => k_is)
    (case uS1 => k_is)
    (case uA2 => k_is)
    (case uB2 => k_is)
    (case uD2 => k_is)
    (case uC2 => k_is)
    (case uM2 => k_is)
    (case uS2 => k_is)
    (case aO0 => k_is)
    (case iO0 => k_is)
    (case tO0 => k_is)
    (case sO0 => k_is)
    (case s0O0 => k_is)
    (case s1O0 => k_is)
    (case s2O0 => k_is)
    (case aO1 => k_is)
    (case iO1 => k_is)
    (case tO1 => k_is)
    (case sO1 => k_is)
    (case s0O1 => k_is)
    (case s1O1 => k_is)
    (case s2O1 => k_is)
    (case aO2 => k_is)
    (case iO2 => k_is)
    (case tO2 => k_is)
    (case sO2 => k_is)
    (case s0O2 => k_is)
    (case s1O2 => k_is)
    (case s2O2 => k_is)
    (case aO3 => k_is)
    (case iO3 => k_is)
    (case tO3 => k_is)
    (case sO3 => k_is)
    (case s0O3 => k_is)
    (case s1O3 => k_is)
    (case s2O3 => k_is)
    (case aO4 => k_is)
    (case iO4 => k_is)
    (case tO4 => k_is)
    (case sO4 => k_is)
    (case s0O4 => k_is)
    (case s1O4 => k_is)
    (case s2O4 => k_is)
    (case aO5 => k_is)
    (case iO5 => k_is)
    (case tO5 => k_is)
    (case sO5 => k_is)
    (case s0O5 => k_is)
    (case s1O5 => k_is)
    (case s2O5 => k_is)
    (case aO6 => k_is)
    (case iO6 => k_is)
    (case tO6 => k_is)
    (case sO6 => k_is)
    (case s0O6 => k_is)
    (case s1O6 => k_is)
    (case s2O6 => k_is)
    (case aO7 => k_is)
    (case iO7 => k_is)
    (case tO7 => k_is)
    (case sO7 => k_is)
    (case s0O7 => k_is)
    (case s1O7 => k_is)
    (case s2O7 => k_is)
    (case aO8 => k_is)
    (case iO8 => k_is)
    (case tO8 => k_is)
    (case sO8 => k_is)
    (case s0O8 => k_is)
    (case s1O8 => k_is)
    (case s2O8 => k_is)
    (case aO9 => k_is)
    (case iO9 => k_is)
    (case tO9 => k_is)
    (case sO9 => k_is)
    (case s0O9 => k_is)
    (case s1O9 => k_is)
    (case s2O9 => k_is)
    (case aO10 => k_is)
    (case iO10 => k_is)
    (case tO10 => k_is)
    (case sO10 => k_is)
    (case s0O10 => k_is)
    (case s1O10 => k_is)
    (case s2O10 => k_is)
    (case aO11 => k_is)
    (case iO11 => k_is)
    (case tO11 => k_is)
    (case sO11 => k_is)
    (case s0O11 => k_is)
    (case s1O11 => k_is)
    (case s2O11 => k_is)
    (case zV => k_is)
    (case sV0 => k_is)
    (case sV1 => k_is)
    (case sV2 => k_is)
    (case z0 => k_is)
    (case z1 => k_is)
    (case z2 => k_is)
    (case z3 => k_is)
    (case z4 => k_is)
    (case z5 => k_is)
    (case z6 => k_is)
    (case z7 => k_is)
    (case v0_ => k_is)
    (case a0 => k_is)
    (case l0 => k_is)
    (case c0_ => k_is)
    (case k0_ => k_is)
    (case a1 => k_is)
    (case l1 => k_is)
    (case c1_ => k_is)
    (case k1_ => k_is)
    (case a2 => k_is)
    (case l2 => k_is)
    (case c2_ => k_is)
    (case k2_ => k_is)
    (case a3 => k_is)
    (case l3 => k_is)
    (case c3_ => k_is)
    (case k3_ => k_is)
    (case a4 => k_is)
    (case l4 => k_is)
    (case c4_ => k_is)
    (case k4_ => k_is)
    (case a5 => k_is)
    (case l5 => k_is)
    (case c5_ => k_is)
    (case k5_ => k_is)
    (case a6 => k_is)
    (case l6 => k_is)
    (case c6_ => k_is)
    (case k6_ => k_is)
    (case a7 => k_is)
    (case l7 => k_is)
    (case c7_ => k_is)
    (case k7_ => k_is)
    (case a8 => k_is)
    (case l8 => k_is)
    (case c8_ => k_is)
    (case k8_ => k_is)
    (case a9 => k_is)
    (case l9 => k_is)
    (case c9_ => k_is)
    (case k9_ => k_is)
    (case a10 => k_is)
    (case l10 => k_is)
    (case c10_ => k_is)
    (case k10_ => k_is)
    (case a11 => k_is)
    (case l11 => k_is)
    (case c11_ => k_is)
    (case k11_ => k_is)
    (case a12 => k_is)
    (case l12 => k_is)
    (case c12_ => k_is)
    (case k12_ => k_is)
    (case a13 => k_is)
    (case l13 => k_is)
    (case c13_ => k_is)
    (case k13_ => k_is)
    (case a14 => k_is)
    (case l14 => k_is)
    (case c14_ => k_is)
    (case k14_ => k_is)
    (case a15 => k_is)
    (case l15 => k_is)
    (case c15_ => k_is)
    (case k15_ => k_is)
    (case a16 => k_is)
    (case l16 => k_is)
    (case c16_ => k_is)
    (case k16_ => k_is)
    (case a17 => k_is)
    (case l17 => k_is)
    (case c17_ => k_is)
    (case k17_ => k_is)
    (case a18 => k_is)
    (case l18 => k_is)
    (case c18_ => k_is)
    (case k18_ => k_is)
    (case a19 => k_is)
    (case l19 => k_is)
    (case c19_ => k_is)
    (case k19_ => k_is)
    (case a20 => k_is)
    (case l20 => k_is)
    (case c20_ => k_is)
    (case k20_ => k_is)
    (case a21 => k_is)
    (case l21 => k_is)
    (case c21_ => k_is)
    (case k21_ => k_is)
    (case a22 => k_is)
    (case l22 => k_is)
    (case c22_ => k_is)
    (case k22_ => k_is)
    (case a23 => k_is)
    (case l23 => k_is)
    (case c23_ => k_is)
    (case k23_ => k_is)
    (case a24 => k_is)
    (case l24 => k_is)
    (case c24_ => k_is)
    (case k24_ => k_is)
    (case a25 => k_is)
    (case l25 => k_is)
    (case c25_ => k_is)
    (case k25_ => k_is)
    (case a26 => k_is)
    (case l26 => k_is)
    (case c26_ => k_is)
    (case k26_ => k_is)
    (case a27 => k_is)
    (case l27 => k_is)
    (case c27_ => k_is)
    (case k27_ => k_is)
    (case a28 => k_is)
    (case l28 => k_is)
    (case c28_ => k_is)
    (case k28_ => k_is)
    (case a29 => k_is)
    (case l29 => k_is)
    (case c29_ => k_is)
    (case k29_ => k_is)
    (case a30 => k_is)
    (case l30 => k_is)
    (case c30_ => k_is)
    (case k30_ => k_is)
    (case a31 => k_is)
    (case l31 => k_is)
    (case c31_ => k_is)
    (case k31_ => k_is)
    (case a32 => k_is)
    (case l32 => k_is)
    (case c32_ => k_is)
    (case k32_ => k_is)
    (case a33 => k_is)
    (case l33 => k_is)
    (case c33_ => k_is)
    (case k33_ => k_is)
    (case a34 => k_is)
    (case l34 => k_is)
    (case c34_ => k_is)
    (case k34_ => k_is)
    (case a35 => k_is)
    (case l35 => k_is)
    (case c35_ => k_is)
    (case k35_ => k_is)
    (case a36 => k_is)
    (case l36 => k_is)
    (case c36_ => k_is)
    (case k36_ => k_is)
    (case a37 => k_is)
    (case l37 => k_is)
    (case c37_ => k_is)
    (case k37_ => k_is)
    (case a38 => k_is)
    (case l38 => k_is)
    (case c38_ => k_is)
    (case k38_ => k_is)
    (case a39 => k_is)
    (case l39 => k_is)
    (case c39_ => k_is)
    (case k39_ => k_is)
    (case a40 => k_is)
    (case l40 => k_is)
    (case c40_ => k_is)
    (case k40_ => k_is)
    (case a41 => k_is)
    (case i41 => k_is)
    (case l41 => k_is)
    (case T41_ => k_is)
    (case c41_ => k_is)
    (case k41_ => k_is)
    (case a42 => k_is)
    (case i42 => k_is)
    (case l42 => k_is)
    (case c42_ => k_is)
    (case k42_ => k_is)
    (case a43 => k_is)
    (case i43 => k_is)
    (case l43 => k_is)
    (case c43_ => k_is)
    (case k43_ => k_is)
    (case a44 => k_is)
    (case i44 => k_is)
    (case l44 => k_is)
    (case c44_ => k_is)
    (case k44_ => k_is)
    (case a45 => k_is)
    (case i45 => k_is)
    (case l45 => k_is)
    (case c45_ => k_is)
    (case k45_ => k_is)
    (case a46 => k_is)
    (case i46 => k_is)
    (case l46 => k_is)
    (case T46_ => k_is)
    (case c46_ => k_is)
    (case k46_ => k_is)
    (case a47 => k_is)
    (case i47 => k_is)
    (case l47 => k_is)
    (case c47_ => k_is)
    (case k47_ => k_is)
    (case a48 => k_is)
    (case i48 => k_is)
    (case l48 => k_is)
    (case c48_ => k_is)
    (case k48_ => k_is)
    (case a49 => k_is)
    (case i49 => k_is)
    (case l49 => k_is)
    (case c49_ => k_is)
    (case k49_ => k_is)
    (case a50 => k_is)
    (case i50 => k_is)
    (case l50 => k_is)
    (case c50_ => k_is)
    (case k50_ => k_is)
    (case a51 => k_is)
    (case i51 => k_is)
    (case l51 => k_is)
    (case c51_ => k_is)
    (case k51_ => k_is)
    (case a52 => k_is)
    (case i52 => k_is)
    (case l52 => k_is)
    (case c52_ => k_is)
    (case k52_ => k_is)
    (case a53 => k_is)
    (case i53 => k_is)
    (case l53 => k_is)
    (case c53_ => k_is)
    (case k53_ => k_is)
    (case a54 => k_is)
    (case i54 => k_is)
    (case l54 => k_is)
    (case c54_ => k_is)
    (case k54_ => k_is)
    (case a55 => k_is)
    (case i55 => k_is)
    (case l55 => k_is)
    (case c55_ => k_is)
    (case k55_ => k_is)
    (case a56 => k_is)
    (case i56 => k_is)
    (case l56 => k_is)
    (case c56_ => k_is)
    (case k56_ => k_is)
    (case a57 => k_is)
    (case i57 => k_is)
    (case l57 => k_is)
    (case c57_ => k_is)
    (case k57_ => k_is)
